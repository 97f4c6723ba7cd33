/-
  Put together out of 5 texts: Walks of the laws of refer: a beginning. Walks of the laws of refer: states; one that nobody backs. The laws of refer: one that finds no room. The laws of refer: one that passes throughout. Walks of the laws of refer: one that passes throughout.
-/
import Derived.Test.YtjjfimbihdoknaaGreatReferConfirmsB6
namespace Go.Al
open Go Go.RowKit Go.Proofs
theorem new_ok (A : Option Addr) (cap : Nat) (fs : List Int) (w : World) (hA : ArgT w 1 intc A cap fs) (hn : fs.length ≤ 100000) (hok : okP fs) : Calls Tryz.prog 26 #[.slice A fs.length cap] w fun e w' => ∃ l F, e = .returned (.tuple #[pt l, nt 0]) ∧ Led F w' l (newX fs 10) [] ∧ Keep none_ w w' ∧ (∀ q, F q → w.heap.size ≤ q) :=
  (new_spec6 A cap fs w hA hn).mono (by
    rintro e w' (⟨_, h⟩ | ⟨h, _⟩)
    · exact h
    · exact absurd hok h)
def rfF : List Int := [1000, 1000, 1000, 1000, 1000, 1000, 1000, 1000, 1000, 1000]
theorem rfF_step {i : Nat} (h : i < 10) : rfF.take (i + 1) = rfF.take i ++ [1000] := by
  have h2 : i < rfF.length := h
  rw [List.take_succ_eq_append_getElem h2]
  congr 2
  exact (by decide : ∀ x ∈ rfF, x = 1000) _ (List.getElem_mem h2)
def rfX : List Acc := newX rfF 10
theorem rfF_ok : okP rfF := by
  refine ⟨by decide, by decide, ?_⟩
  have h : tot (newX rfF 10) = 10000 := by kernel_rfl
  omega
set_option maxRecDepth 10000 in
set_option maxHeartbeats 1000000 in
theorem begin_weak (A : Option Addr) (cap : Nat) (ts : List Trk) (w : World) (hA : SlT w 18 Trk.cells A cap ts) (hok : okTs ts) : Calls Tryz.prog 15 #[.slice A ts.length cap] w fun e w' => ∃ b r g v l H F G xv yv zv, e = .returned (pt b) ∧ Blk w' b [pt l, pt v, pt r, .pointer xv, .pointer yv, .pointer zv, nt 0] 39 ∧ Rfr H w' r g ts [] ∧ VotT F w' v VS.zero ∧ Led G w' l rfX [] ∧ Keep none_ w w' ∧ w.heap.size ≤ b ∧ (∀ q, H q → w.heap.size ≤ q ∧ q ≠ b) ∧ (∀ q, F q → w.heap.size ≤ q ∧ q ≠ b) ∧ (∀ q, G q → w.heap.size ≤ q ∧ q ≠ b) ∧ (∀ q, H q → ¬ F q) ∧ (∀ q, H q → ¬ G q) ∧ (∀ q, F q → ¬ G q) := by
 have hAlt := SlT.lt hA
 have hK0 : Keep none_ w w := Keep.refl _ _
 have hzhK0 := Keep.size hK0
 refine enterV Tryz.func15 rfl [.slice A ts.length cap] 76 rfl rfl rfl ?_
 refine Vr ?_
 refine On 1 [0] ?_
 refine Oer ?_
 refine On 1 [0, 3] ?_
 refine Oe ?_
 refine V_seq ?_
 refine Vs [(0, .slice A ts.length cap), (3, .slice none 0 0), (4, nt 0)] ?_
 refine V_block ?_
 refine V_pick [(0, .slice A ts.length cap), (3, .slice none 0 0), (4, nt 0)] rfl ?_
 refine V_loop (fun k wI e => ∃ i : Nat, ∃ A2 : Option Addr, ∃ cap2 : Nat, ∃ ms : List Int, (k + i = 10) ∧ (i ≤ 10) ∧ (ms = rfF.take i) ∧ (SlT wI 1 intc A2 cap2 ms) ∧ (∀ q, inA A2 q → w.heap.size ≤ q) ∧ Keep none_ w wI ∧ e = [(0, .slice A ts.length cap), (3, .slice A2 ms.length cap2), (4, nt (i : Int))]) 10 ⟨0, none, 0, [], by omega, by omega, rfl, SlT.nil _ _ _, fun q h => (inA_none h).elim, Keep.refl _ _, rfl⟩ ?_
 rintro k2 w1 _ ⟨i, A2, cap2, ms, hki, hi10, hms, hA2, ow2, hk3, rfl⟩
 have hsz4 := Keep.size hk3
 replace hA := hA.keep0 hk3
 replace hK0 := hK0.tn hk3
 have hzhk3 := Keep.size hk3
 have lt2 := SlT.lt hA2
 have hml : ms.length = i := by rw [hms, List.length_take]; show min i 10 = i; omega
 refine V_seq ?_
 refine Vs [(0, .slice A ts.length cap), (3, .slice A2 ms.length cap2), (4, nt (i : Int)), (15, .bool (decide ((i : Int) < 10)))] ?_
 refine V_if ((i : Int) < 10) (by kernel_rfl) (fun hc5 => ?_) (fun hc5 => ?_)
 ·
  refine V_skip ?_
  refine X_then ?_
  refine V_seq ?_
  refine V_block ?_
  refine V_region ?_
  refine Os 1 [(0, .slice A ts.length cap), (4, nt (i : Int)), (18, .slice A2 ms.length cap2)] ?_
  refine OI_slit (E := 3) (zv := nt 0) (sz := 1) (by_ := 8) 72 1 #[(0, (Operand.const (Value.int IntKind.i64 1000)))] [nt 1000] [nt 1000] (some 19) (by kernel_rfl) (by kernel_rfl) (by kernel_rfl) (by omega) rfl (by omega) (by intro v hv; simp only [List.mem_cons, List.not_mem_nil, or_false] at hv; rcases hv with rfl <;> rfl) (by kernel_rfl) rfl ?_
  intro b6 w6 e6 hb6 k6 z6
  have hsz7 := Keep.size k6
  replace hA := hA.keep0 k6
  replace hA2 := hA2.keep0 k6
  replace hK0 := hK0.tn k6
  replace hk3 := hk3.tn k6
  have hb6lt := hb6.lt
  refine OI_append (t := 72) (at2 := 72) (E := 3) (E2 := 3) (sz := 1) (by_ := 8) (zv := nt 0) (m := ms.length) (k := 1) (.tmp 18) (.tmp 19) (.slice A2 ms.length cap2) (sl_ b6 0 1 1) (some 20) (by kernel_rfl) (by kernel_rfl) (by kernel_rfl) (by kernel_rfl) (by kernel_rfl) (by kernel_rfl) (by kernel_rfl) (SlT.slr hA2) (slr_one hb6 (intc_len 1000)) (intc_one 1000) (by first | omega | (simp only [List.length_nil]; omega)) (by omega) (by first | omega | (simp only [List.length_nil]; omega)) (by omega) ?_
  intro vv9 w8 hap
  obtain ⟨A8, cap8, rfl, hA8, hk8, own8x⟩ := app_one (f := intc) (xs := ms) (x := 1000) (A := A2) (cap := cap2) hap (fun x _ => intc_len x) (intc_len _)
  have own8 : ∀ q, inA A8 q → w.heap.size ≤ q := fun q hq => by rcases own8x q hq with h | h; exact ow2 q h; (show w.heap.size ≤ q; omega)
  have hsz9 := Keep.size hk8
  replace hA := hA.keep hk8 (fun q hq hs => by have g1 := hAlt q hq; have h1 := ow2 q hs; have h2 := lt2 q hs; omega)
  replace hK0 := Keep.fresh hK0 hk8 (by intro i hi hs; first | exact hs | (exfalso; have h1 := ow2 i hs; have h2 := lt2 i hs; omega) | (have h1 := ow2 i hs; have h2 := lt2 i hs; show _ ∨ _; omega))
  replace hk3 := Keep.fresh hk3 hk8 (by intro i hi hs; first | exact hs | (exfalso; have h1 := ow2 i hs; have h2 := lt2 i hs; omega) | (have h1 := ow2 i hs; have h2 := lt2 i hs; show _ ∨ _; omega))
  have lt8 := SlT.lt hA8
  refine Os 4 [(0, .slice A ts.length cap), (3, .slice A8 ((ms ++ [1000]).length) cap8), (4, nt (i : Int))] ?_
  refine OI_end rfl ?_
  refine X_block ?_
  refine X_then ?_
  refine V_region ?_
  have hw10 : IntKind.i64.wrap ((i : Int) + 1) = ((i + 1 : Nat) : Int) := (wrap64_id (by omega) (by omega)).trans (by omega)
  refine Os 2 [(0, .slice A ts.length cap), (3, .slice A8 ((ms ++ [1000]).length) cap8), (17, nt (IntKind.i64.wrap ((i : Int) + 1)))] ?_
  refine Oq (u := nt (IntKind.i64.wrap ((i : Int) + 1))) (v := nt ((i + 1 : Nat) : Int)) 17 (by rw [hw10]) ?_
  refine Os 3 [(0, .slice A ts.length cap), (3, .slice A8 ((ms ++ [1000]).length) cap8), (4, nt ((i + 1 : Nat) : Int))] ?_
  refine OI_end rfl ?_
  exact V_again (k2 - 1) (by omega) [(0, .slice A ts.length cap), (3, .slice A8 ((ms ++ [1000]).length) cap8), (4, nt ((i + 1 : Nat) : Int))] rfl ⟨i + 1, A8, cap8, ms ++ [1000], by omega, by omega, by rw [rfF_step (by omega), ← hms], hA8, own8, hk3, rfl⟩
 refine V_exit ?_
 refine X_exit_then ?_
 refine X_exit_then ?_
 refine X_exit_here ?_
 refine X_then ?_
 refine Vr ?_
 refine On 1 [0, 3, 22] ?_
 have hie : i = 10 := by omega
 replace hms : ms = rfF := by rw [hms, hie]; rfl
 refine Ok (kl 26 #[(.tmp 22)] #[72]) 26 #[.slice A2 ms.length cap2] (some 23) (new_ok A2 cap2 ms _ (SlT.arg hA2) (by omega) (by rw [hms]; exact rfF_ok)) ?_
 rintro _ w11 ⟨l13, F14, rfl, ho15, hk12, hge16⟩
 refine ⟨_, rfl, ?_⟩
 have hsz17 := Keep.size hk12
 replace hA := hA.keep0 hk12
 replace hA2 := hA2.keep0 hk12
 replace hK0 := hK0.tn hk12
 replace ho15 : Led F14 w11 l13 rfX [] := by rw [hms] at ho15; exact ho15
 have own18 : ∀ q, F14 q → w1.heap.size ≤ q := fun q hq => by have h1 := hge16 q hq; omega
 have lt19 := Led.lt ho15
 have dis20 : ∀ q, F14 q → ¬ inA A q := fun q h1 h2 => by have h3 := hge16 q h1; have h4 := hAlt q h2; omega
 have dis21 : ∀ q, F14 q → ¬ inA A2 q := fun q h1 h2 => by have h3 := hge16 q h1; have h4 := lt2 q h2; omega
 have hl13lt : l13 < w11.heap.size := Led.lt ho15 _ (Led.at_ ho15)
 have hl13ge := hge16 _ (Led.at_ ho15)
 refine On 7 [0, 3, 5, 6] ?_
 refine Oer ?_
 refine On 1 [0, 5, 6, 27] ?_
 refine Ok (kl 39 #[(.tmp 27)] #[72]) 39 #[.slice A2 ms.length cap2] (some 28) (rnew6_weak A2 cap2 ms _ (SlT.arg hA2) (by omega)) ?_
 rintro _ w22 ⟨pv24, n25, rfl, hk23⟩
 refine ⟨_, rfl, ?_⟩
 have hsz26 := Keep.size hk23
 replace hA := hA.keep0 hk23
 replace hA2 := hA2.keep0 hk23
 replace hK0 := hK0.tn hk23
 replace ho15 := ho15.keep hk23 nk
 refine On 7 [0, 5, 6, 7] ?_
 refine Oer ?_
 refine On 1 [0, 5, 6, 7, 32] ?_
 refine Ok (kl 35 #[(.tmp 32)] #[29]) 35 #[.slice A ts.length cap] (some 33) (rnw_spec A cap ts _ hA hok) ?_
 rintro _ w27 ⟨r29, gg33, H30, rfl, hR31, hk28, hge32⟩
 refine ⟨_, rfl, ?_⟩
 have hsz34 := Keep.size hk28
 replace hA := hA.keep0 hk28
 replace hA2 := hA2.keep0 hk28
 replace hK0 := hK0.tn hk28
 replace ho15 := ho15.keep hk28 nk
 have own35 : ∀ q, H30 q → w22.heap.size ≤ q := fun q hq => by have h1 := hge32 q hq; omega
 have lt36 := Rfr.lt hR31
 have dis37 : ∀ q, H30 q → ¬ inA A q := fun q h1 h2 => by have h3 := hge32 q h1; have h4 := hAlt q h2; omega
 have dis38 : ∀ q, H30 q → ¬ inA A2 q := fun q h1 h2 => by have h3 := hge32 q h1; have h4 := lt2 q h2; omega
 have dis39 : ∀ q, H30 q → ¬ F14 q := fun q h1 h2 => by have h3 := hge32 q h1; have h4 := lt19 q h2; omega
 have hr29lt : r29 < w27.heap.size := Rfr.lt hR31 _ (Rfr.at_ hR31)
 have hr29ge := hge32 _ (Rfr.at_ hR31)
 refine On 7 [0, 5, 6, 7, 9, 10] ?_
 refine Oer ?_
 refine On 1 [5, 6, 7, 9, 10, 37] ?_
 refine Ok (kl 34 #[(.tmp 37)] #[29]) 34 #[.slice A ts.length cap] (some 38) (rnew12_weak A cap ts _ hA hok) ?_
 rintro _ w40 ⟨pv42, rfl, hk41⟩
 refine ⟨_, rfl, ?_⟩
 have hsz43 := Keep.size hk41
 replace hA := hA.keep0 hk41
 replace hA2 := hA2.keep0 hk41
 replace hK0 := hK0.tn hk41
 replace ho15 := ho15.keep hk41 nk
 replace hR31 := hR31.keep hk41 nk
 refine On 7 [5, 6, 7, 9, 10, 11, 12] ?_
 refine Oer ?_
 refine On 1 [5, 6, 7, 9, 10, 11, 12, 41] ?_
 refine Ok (kl 27 #[] #[]) 27 #[] (some 42) (new_votT _) ?_
 rintro _ w46 ⟨g48, F49, rfl, ho50, hk47, hge51⟩
 refine ⟨_, rfl, ?_⟩
 have hsz52 := Keep.size hk47
 replace hA := hA.keep0 hk47
 replace hA2 := hA2.keep0 hk47
 replace hK0 := hK0.tn hk47
 replace ho15 := ho15.keep hk47 nk
 replace hR31 := hR31.keep hk47 nk
 have own53 : ∀ q, F49 q → w40.heap.size ≤ q := fun q hq => by have h1 := hge51 q hq; omega
 have lt54 := VotT.lt ho50
 have dis55 : ∀ q, F49 q → ¬ inA A q := fun q h1 h2 => by have h3 := hge51 q h1; have h4 := hAlt q h2; omega
 have dis56 : ∀ q, F49 q → ¬ inA A2 q := fun q h1 h2 => by have h3 := hge51 q h1; have h4 := lt2 q h2; omega
 have dis57 : ∀ q, F49 q → ¬ F14 q := fun q h1 h2 => by have h3 := hge51 q h1; have h4 := lt19 q h2; omega
 have dis58 : ∀ q, F49 q → ¬ H30 q := fun q h1 h2 => by have h3 := hge51 q h1; have h4 := lt36 q h2; omega
 have hg48lt : g48 < w46.heap.size := VotT.lt ho50 _ (VotT.at_ ho50)
 have hg48ge := hge51 _ (VotT.at_ ho50)
 refine On 4 [5, 6, 9, 10, 11, 12, 41, 42, 43, 44] ?_
 refine Ok (kl 40 #[] #[]) 40 #[] (some 45) (rnew11_weak _) ?_
 rintro _ w59 ⟨pv61, rfl, hk60⟩
 refine ⟨_, rfl, ?_⟩
 have hsz62 := Keep.size hk60
 replace hA := hA.keep0 hk60
 replace hA2 := hA2.keep0 hk60
 replace hK0 := hK0.tn hk60
 replace ho15 := ho15.keep hk60 nk
 replace hR31 := hR31.keep hk60 nk
 replace ho50 := ho50.keep hk60 nk
 refine On 7 [5, 6, 9, 10, 12, 47] ?_
 refine OI_box 39 (.tmp 47) (.agg #[pt l13, pt g48, pt r29, .pointer pv24, .pointer pv61, .pointer pv42, nt 0]) [pt l13, pt g48, pt r29, .pointer pv24, .pointer pv61, .pointer pv42, nt 0] (some 48) (by kernel_rfl) (by kernel_rfl) (by kernel_rfl) ?_
 intro b63 w63 e63 hb63 k63 z63
 have hsz64 := Keep.size k63
 replace hA := hA.keep0 k63
 replace hA2 := hA2.keep0 k63
 replace hK0 := hK0.tn k63
 replace ho15 := ho15.keep k63 nk
 replace hR31 := hR31.keep k63 nk
 replace ho50 := ho50.keep k63 nk
 have hb63lt := hb63.lt
 refine On 9 [5, 6, 9, 10, 12, 13] ?_
 refine Oe ?_
 refine V_seq ?_
 refine Vr ?_
 refine On 10 [9, 10, 12, 13, 55, 58] ?_
 refine Oc 33 (.tmp 58) 1 (pt g48) (some 59) hb63 rfl ?_
 refine Ose [(13, pt b63), (74, .bool false)] ?_
 refine V_false rfl ?_
 refine V_skip ?_
 refine X_then ?_
 refine Vs [(2, pt b63)] ?_
 refine V_ret ?_
 exact X_return _ rfl ⟨b63, r29, gg33, g48, l13, H30, F49, F14, pv24, pv61, pv42, rfl, hb63, hR31, ho50, ho15, hK0, by omega, (fun q hq => ⟨by have h1 := own35 q hq; omega, by have h1 := lt36 q hq; omega⟩), (fun q hq => ⟨by have h1 := own53 q hq; omega, by have h1 := lt54 q hq; omega⟩), (fun q hq => ⟨by have h1 := own18 q hq; omega, by have h1 := lt19 q hq; omega⟩), (fun q h1 h2 => dis58 q h2 h1), dis39, dis57⟩
end Go.Al

namespace Go.Al
open Go Go.RowKit Go.Proofs
structure RW where
  xs : List Acc
  cs : List Ci
  s : VS
  rs : List Rfm
def rwQ0 : RW := ⟨rfX, [], VS.zero, []⟩
def rwSub (ts : List Trk) (q : RW) (who of after : Int) (sum : Nat → Int) (now : Int) : RW := ⟨subX q.xs q.cs q.s ts q.rs who of after, q.cs, subS q.xs q.cs q.s ts q.rs who of after, subR q.xs q.cs q.s ts q.rs who of after sum now⟩
def rwDep (ts : List Trk) (q : RW) (who ref : Int) : RW := ⟨depX q.xs q.cs ts q.rs who ref, q.cs, q.s, depR q.xs q.cs ts q.rs who ref⟩
def rwSvc (ts : List Trk) (q : RW) (now : Int) : RW := ⟨q.xs, q.cs, (svcQ ts q.xs q.s q.rs now).s, (svcQ ts q.xs q.s q.rs now).rs⟩
def rwEvs (ts : List Trk) (q : RW) (now : Int) : List Evt := (svcQ ts q.xs q.s q.rs now).out
def rwVot (q : RW) (who ref : Int) (x : Vt) : RW := ⟨q.xs, voteC q.xs q.cs q.s who ref x, voteS q.xs q.s who ref x, q.rs⟩
def RW.subE (ts : List Trk) (q : RW) (who of after : Int) : Int := _root_.Go.Al.subE q.xs q.cs q.s ts q.rs who of after
def RW.votE (q : RW) (who ref : Int) (x : Vt) : Int := voteE q.xs q.s who ref x
theorem SlT.ofE {α : Type} {w : World} {sz cap : Nat} {f : α → List Value} {A : Option Addr} {xs ys : List α} (h : SlT w sz f A cap xs) (e : xs = ys) : SlT w sz f A cap ys := e ▸ h
def plainT : Trk := ⟨1, 20, 2, 10, 3, 1, ⟨1, 500000000, 500000000, 1, 0⟩, ⟨1, 100000000, 100000000, 1, 0⟩, 50, 2⟩
theorem plain_ok : okTs [plainT] := ⟨by decide, by decide, by decide⟩
set_option maxRecDepth 10000 in
theorem plain_spec (w : World) : Calls Tryz.prog 16 #[] w (rk_ w (.agg plainT.cells.toArray)) := by
 have hK0 : Keep none_ w w := Keep.refl _ _
 have hzhK0 := Keep.size hK0
 refine enterM Tryz.func16 rfl [] 4 rfl rfl rfl ?_
 refine V_pick [] rfl ?_
 refine Vr ?_
 refine OI_alloc 27 (.agg (Trk.cells Trk.zero).toArray) (Trk.cells Trk.zero) (some 0) (by kernel_rfl) (by kernel_rfl) (by kernel_rfl) ?_
 intro b1 w1 e1 hb1 k1 z1
 have hsz2 := Keep.size k1
 replace hK0 := hK0.tn k1
 have hb1lt := hb1.lt
 refine Oer ?_
 refine Os 3 [(0, pt b1), (3, .agg (Trk.cells plainT).toArray)] ?_
 refine Otg 27 (.tmp 0) (.tmp 3) 0 (Trk.cells plainT) hb1 (Trk.len _) (Trk.one _) ?_
 intro w3 hb1_6 hk4 hz5
 replace hb1_6 : Blk w3 b1 (Trk.cells plainT) 27 := (Blk.eqL (Trk.over _ _) hb1_6)
 have hsz7 := Keep.size hk4
 replace hK0 := Keep.fr hK0 hk4
 refine Oe ?_
 refine V_ret ?_
 exact leave0 (.agg (Trk.cells plainT).toArray) (.inl rfl) (res_agg1 (m := 18) rfl rfl (by kernel_rfl) hb1_6 rfl) ⟨rfl, hK0⟩
def kwQ1 : RW := rwSub [plainT] rwQ0 1 0 0 z0 0
def kwQ2 : RW := rwSvc [plainT] kwQ1 29
def kwQ3 : RW := rwSvc [plainT] kwQ2 30
theorem kw1 : RW.subE [plainT] rwQ0 1 0 0 = 0 := by kernel_rfl
theorem kw2 : rwEvs [plainT] kwQ1 29 = [] := by kernel_rfl
theorem kw3 : rwEvs [plainT] kwQ2 30 = [Evt.mk 1 0 4] := by kernel_rfl
set_option maxRecDepth 10000 in
set_option maxHeartbeats 1000000 in
theorem known_spec (w : World) : Calls Tryz.prog 18 #[] w (rk_ w (.bool true)) := by
 have hK0 : Keep none_ w w := Keep.refl _ _
 have hzhK0 := Keep.size hK0
 refine enterV Tryz.func18 rfl [] 77 rfl rfl rfl ?_
 refine Vr ?_
 refine On 1 [] ?_
 refine Oer ?_
 refine Ok (kl 16 #[] #[]) 16 #[] (some 6) (plain_spec _) ?_
 rintro _ w1 ⟨rfl, hk2⟩
 refine ⟨_, rfl, ?_⟩
 have hsz3 := Keep.size hk2
 replace hK0 := hK0.tn hk2
 refine OI_slit (E := 27) (zv := .agg #[nt 0, nt 0, nt 0, nt 0, nt 0, nt 0, nt 0, nt 0, nt 0, nt 0, nt 0, nt 0, nt 0, nt 0, nt 0, nt 0, nt 0, nt 0]) (sz := 18) (by_ := 144) 29 1 #[(0, (Operand.tmp 6))] [.agg (Trk.cells plainT).toArray] (Trk.cells plainT) (some 7) (by kernel_rfl) (by kernel_rfl) (by kernel_rfl) (by omega) rfl (by omega) (by intro v hv; obtain rfl := List.mem_singleton.1 hv; show (Trk.cells plainT).toArray.size = 18; simp [Trk.len]) (by kernel_rfl) (by show (Trk.cells plainT).toArray.toList ++ [] = _; simp) ?_
 intro b4 w4 e4 hb4 k4 z4
 have hsz5 := Keep.size k4
 replace hK0 := hK0.tn k4
 have hb4lt := hb4.lt
 refine Ok (kl 15 #[(.tmp 7)] #[29]) 15 #[sl_ b4 0 1 1] (some 8) (begin_weak (some ⟨b4, 0, none⟩) 1 [(plainT)] _ (slt_blk (xs := [(plainT)]) (f := Trk.cells) hb4 Trk.len rfl) plain_ok) ?_
 rintro _ w8 ⟨b10, r11, gg12, v13, l14, H15, F16, G17, xv18, yv19, zv20, rfl, hb21, hR22, hV23, hL24, hk9, hge25, oH26, oF27, oG28, dHF29, dHG30, dFG31⟩
 refine ⟨_, rfl, ?_⟩
 have hsz32 := Keep.size hk9
 replace hb4 := hb4.k0 hk9
 replace hK0 := hK0.tn hk9
 have hb10lt := hb21.lt
 have own33 : ∀ q, H15 q → w4.heap.size ≤ q ∧ q ≠ b4 ∧ q ≠ b10 := fun q hq => by have h1 := oH26 q hq; omega
 have lt34 := Rfr.lt hR22
 have own35 : ∀ q, F16 q → w4.heap.size ≤ q ∧ q ≠ b4 ∧ q ≠ b10 := fun q hq => by have h1 := oF27 q hq; omega
 have lt36 := VotT.lt hV23
 have own37 : ∀ q, G17 q → w4.heap.size ≤ q ∧ q ≠ b4 ∧ q ≠ b10 := fun q hq => by have h1 := oG28 q hq; omega
 have lt38 := Led.lt hL24
 replace hR22 : Rfr H15 w8 r11 gg12 [(plainT)] rwQ0.rs := hR22
 replace hV23 : VotT F16 w8 v13 rwQ0.s := hV23
 replace hL24 : Led G17 w8 l14 rwQ0.xs rwQ0.cs := hL24
 refine On 4 [1] ?_
 refine Oe ?_
 refine V_seq ?_
 refine Vs [(1, pt b10), (10, .bool false)] ?_
 refine V_false rfl ?_
 refine V_skip ?_
 refine X_then ?_
 refine V_seq ?_
 refine V_draws (acts [13]) none_ [[0, 1, 2, 3, 4, 5, 6, 7, 8, 9, 10, 11, 12, 13, 14, 15, 16, 17, 18]] (by kernel_rfl) (by repeat first | exact (by first | exact sure_body (by rintro _ _ ⟨_, _, h, _⟩; exact ⟨_, h⟩) | exact sure_body (by rintro _ _ ⟨_, _, _, _, _, _, _, _, _, _, _, h, _⟩; exact ⟨_, h⟩) | exact sure_body (by rintro _ _ ⟨h, _⟩; exact ⟨_, h⟩)) | refine sure_then ?_ | refine sure_block ?_ | refine sure_join ?_) (by kernel_rfl) ?_
 intro w40 hk39 he41 L hL42
 have hsz43 := Keep.size hk39
 replace hb4 := hb4.k0 hk39
 replace hb21 := hb21.k0 hk39
 replace hK0 := hK0.tn hk39
 replace hR22 := hR22.keep hk39 nk
 replace hV23 := hV23.keep hk39 nk
 replace hL24 := hL24.keep hk39 nk
 have qhb4 := hb4
 have qhb21 := hb21
 have K44 : Keep none_ w40 w40 := Keep.refl _ _
 obtain rfl := List.mem_singleton.1 hL42
 refine Gn [3, 4, 5, 6, 7, 8, 9, 10, 11, 12, 13, 14, 15, 16, 17, 18] [1, 14] ?_
 refine Gc0 34 (.tmp 14) 2 (pt r11) (some 15) qhb21 rfl ?_
 refine Gn [7, 8, 9, 10, 11, 12, 13, 14, 15, 16, 17, 18] [1, 15, 18] ?_
 refine Gc0 32 (.tmp 18) 0 (pt l14) (some 19) qhb21 rfl ?_
 refine Gn [11, 12, 13, 14, 15, 16, 17, 18] [1, 15, 19, 22] ?_
 refine Gc0 33 (.tmp 22) 1 (pt v13) (some 23) qhb21 rfl ?_
 refine Gn [13, 14, 15, 16, 17, 18] [1, 15, 19, 23, 24] ?_
 refine Gk0 (kl 17 #[(.tmp 15), (.tmp 19), (.tmp 23), (.const (nt 1)), (.const (nt 0)), (.tmp 24), (.const (nt 0)), (.const (nt 0))] #[34, 32, 33, 3, 3, 42, 3, 3]) 17 #[pt r11, pt l14, pt v13, nt 1, nt 0, .agg (hshc z0).toArray, nt 0, nt 0] (some 25) (submit_spec H15 r11 gg12 [(plainT)] rwQ0.rs F16 v13 rwQ0.s G17 l14 rwQ0.xs rwQ0.cs 1 0 z0 0 0 _ hR22 hV23 hL24 dHF29 dHG30 dFG31) ?_
 rintro _ w47 ⟨rfl, ⟨F49, F52, F55, ho50, ho53, ho56, hfr51, hfr54, hfr57, hdis58, hdis59, hdis60⟩, hk48⟩
 refine ⟨_, rfl, ?_⟩
 have hsz61 := Keep.size hk48
 replace hb4 := hb4.keep hk48 (fun hs => by rcases hs with hs | hs | hs; (have u9 : _ = gg12 := hs; have u0 := own33 _ (Rfr.atg hR22); have u1 := lt34 _ (Rfr.atg hR22); omega); (have u0 := own35 _ hs; have u1 := lt36 _ hs; omega); (have u0 := own37 _ hs; have u1 := lt38 _ hs; omega))
 replace hb21 := hb21.keep hk48 (fun hs => by rcases hs with hs | hs | hs; (have u9 : _ = gg12 := hs; have u0 := own33 _ (Rfr.atg hR22); have u1 := lt34 _ (Rfr.atg hR22); omega); (have u0 := own35 _ hs; have u1 := lt36 _ hs; omega); (have u0 := own37 _ hs; have u1 := lt38 _ hs; omega))
 replace hK0 := Keep.fresh hK0 hk48 (by intro i hi hs; first | exact hs | (rcases hs with hs | hs | hs; (have u9 : _ = gg12 := hs; have u0 := own33 _ (Rfr.atg hR22); have u1 := lt34 _ (Rfr.atg hR22); omega); (have u0 := own35 i hs; have u1 := lt36 i hs; omega); (have u0 := own37 i hs; have u1 := lt38 i hs; omega)))
 have own63 : ∀ q, F49 q → w4.heap.size ≤ q ∧ q ≠ b4 ∧ q ≠ b10 := fun q hq => by rcases hfr51 q hq with h | h; (have h1 := own33 q h; have h2 := lt34 q h; omega); omega
 have lt62 := Rfr.lt ho50
 have own65 : ∀ q, F52 q → w4.heap.size ≤ q ∧ q ≠ b4 ∧ q ≠ b10 := fun q hq => by rcases hfr54 q hq with h | h; (have h1 := own35 q h; have h2 := lt36 q h; omega); omega
 have lt64 := VotT.lt ho53
 have own67 : ∀ q, F55 q → w4.heap.size ≤ q ∧ q ≠ b4 ∧ q ≠ b10 := fun q hq => by rcases hfr57 q hq with h | h; (have h1 := own37 q h; have h2 := lt38 q h; omega); omega
 have lt66 := Led.lt ho56
 replace ho50 : Rfr F49 w47 r11 gg12 [(plainT)] kwQ1.rs := ho50
 replace ho53 : VotT F52 w47 v13 kwQ1.s := ho53
 replace ho56 : Led F55 w47 l14 kwQ1.xs kwQ1.cs := ho56
 refine Gp_ [(1, pt b10), (25, .tuple #[nt (if RW.subE [(plainT)] rwQ0 1 0 0 = 0 then (rwQ0.rs.length : Int) else 0), nt (RW.subE [(plainT)] rwQ0 1 0 0)])] ?_
 refine GI_eq [(1, pt b10), (25, .tuple #[nt 0, nt 0])] (by rw [kw1]; rfl) ?_
 refine Gs [] [(1, pt b10), (2, nt 0), (3, nt 0)] ?_
 refine GI_end ?_
 refine X_then ?_
 refine V_seq ?_
 refine V_draws (acts [12]) none_ [[0, 1, 2, 3, 4, 5, 6, 7, 8, 9, 10, 11, 12, 13]] (by kernel_rfl) (by repeat first | exact (by first | exact sure_body (by rintro _ _ ⟨_, _, h, _⟩; exact ⟨_, h⟩) | exact sure_body (by rintro _ _ ⟨_, _, _, _, _, _, _, _, _, _, _, h, _⟩; exact ⟨_, h⟩) | exact sure_body (by rintro _ _ ⟨h, _⟩; exact ⟨_, h⟩)) | refine sure_then ?_ | refine sure_block ?_ | refine sure_join ?_) (by kernel_rfl) ?_
 intro w69 hk68 he70 L hL71
 have hsz72 := Keep.size hk68
 replace hb4 := hb4.k0 hk68
 replace hb21 := hb21.k0 hk68
 replace hK0 := hK0.tn hk68
 replace ho50 := ho50.keep hk68 nk
 replace ho53 := ho53.keep hk68 nk
 replace ho56 := ho56.keep hk68 nk
 have qhb4 := hb4
 have qhb21 := hb21
 have K73 : Keep none_ w69 w69 := Keep.refl _ _
 obtain rfl := List.mem_singleton.1 hL71
 refine Gn [3, 4, 5, 6, 7, 8, 9, 10, 11, 12, 13] [1, 2, 3, 30] ?_
 refine Gc0 34 (.tmp 30) 2 (pt r11) (some 31) qhb21 rfl ?_
 refine Gn [7, 8, 9, 10, 11, 12, 13] [1, 2, 3, 31, 34] ?_
 refine Gc0 32 (.tmp 34) 0 (pt l14) (some 35) qhb21 rfl ?_
 refine Gn [11, 12, 13] [1, 2, 3, 31, 35, 38] ?_
 refine Gc0 33 (.tmp 38) 1 (pt v13) (some 39) qhb21 rfl ?_
 refine Gk0 (kl 22 #[(.tmp 31), (.tmp 35), (.tmp 39), (.const (nt 29))] #[34, 32, 33, 3]) 22 #[pt r11, pt l14, pt v13, nt 29] (some 40) (service_spec F49 r11 gg12 [(plainT)] kwQ1.rs F52 v13 kwQ1.s F55 l14 kwQ1.xs kwQ1.cs 29 _ ho50 ho53 ho56 hdis58 hdis59 hdis60) ?_
 rintro _ w76 ⟨A78, cap78, rfl, hA78, ow78, ⟨F79, F82, ho80, ho83, hfr81, hfr84, hdis85, dA86, dA87⟩, hk77⟩
 refine ⟨_, rfl, ?_⟩
 have hsz88 := Keep.size hk77
 replace hb4 := hb4.keep hk77 (fun hs => by rcases hs with hs | hs; (have u9 : _ = gg12 := hs; have u0 := own63 _ (Rfr.atg ho50); have u1 := lt62 _ (Rfr.atg ho50); omega); (have u0 := own65 _ hs; have u1 := lt64 _ hs; omega))
 replace hb21 := hb21.keep hk77 (fun hs => by rcases hs with hs | hs; (have u9 : _ = gg12 := hs; have u0 := own63 _ (Rfr.atg ho50); have u1 := lt62 _ (Rfr.atg ho50); omega); (have u0 := own65 _ hs; have u1 := lt64 _ hs; omega))
 replace hK0 := Keep.fresh hK0 hk77 (by intro i hi hs; first | exact hs | (rcases hs with hs | hs; (have u9 : _ = gg12 := hs; have u0 := own63 _ (Rfr.atg ho50); have u1 := lt62 _ (Rfr.atg ho50); omega); (have u0 := own65 i hs; have u1 := lt64 i hs; omega)))
 replace ho56 := ho56.keep hk77 (fun q hq hs => by rcases hs with hs | hs; exact (fun q h1 h2 => hdis59 q h2 h1) q hq (by rw [show q = gg12 from hs]; exact (Rfr.atg ho50)); exact (fun q h1 h2 => hdis60 q h2 h1) q hq hs)
 have own90 : ∀ q, F79 q → w4.heap.size ≤ q ∧ q ≠ b4 ∧ q ≠ b10 := fun q hq => by rcases hfr81 q hq with h | h; (have h1 := own63 q h; have h2 := lt62 q h; omega); omega
 have lt89 := Rfr.lt ho80
 have dis91 : ∀ q, F79 q → ¬ F55 q := fun q h1 h2 => by rcases hfr81 q h1 with h | h; exact hdis59 q h h2; (have h4 := lt66 q h2; omega)
 have own93 : ∀ q, F82 q → w4.heap.size ≤ q ∧ q ≠ b4 ∧ q ≠ b10 := fun q hq => by rcases hfr84 q hq with h | h; (have h1 := own65 q h; have h2 := lt64 q h; omega); omega
 have lt92 := VotT.lt ho83
 have dis94 : ∀ q, F82 q → ¬ F55 q := fun q h1 h2 => by rcases hfr84 q h1 with h | h; exact hdis60 q h h2; (have h4 := lt66 q h2; omega)
 have ltA78 := SlT.lt hA78
 have dis95 : ∀ q, inA A78 q → ¬ F55 q := fun q h1 h2 => by have h3 := ow78 q h1; have h4 := lt66 q h2; omega
 replace hA78 := SlT.ofE (xs := (rwEvs [(plainT)] kwQ1 29)) hA78 (show _ = ([] : List Evt) from kw2)
 replace ho80 : Rfr F79 w76 r11 gg12 [(plainT)] kwQ2.rs := ho80
 replace ho83 : VotT F82 w76 v13 kwQ2.s := ho83
 replace ho56 : Led F55 w76 l14 kwQ2.xs kwQ2.cs := ho56
 refine Gp_ [(1, pt b10), (2, nt 0), (3, nt 0), (40, .slice A78 ((rwEvs [(plainT)] kwQ1 29).length) cap78)] ?_
 refine GI_eq [(1, pt b10), (2, nt 0), (3, nt 0), (40, .slice A78 0 cap78)] (by rw [show (rwEvs [(plainT)] kwQ1 29) = ([] : List Evt) from kw2]; rfl) ?_
 refine Gs [] [(1, pt b10), (2, nt 0), (3, nt 0), (4, .slice A78 0 cap78)] ?_
 refine GI_end ?_
 refine X_then ?_
 refine V_seq ?_
 refine V_draws (acts [12]) none_ [[0, 1, 2, 3, 4, 5, 6, 7, 8, 9, 10, 11, 12, 13]] (by kernel_rfl) (by repeat first | exact (by first | exact sure_body (by rintro _ _ ⟨_, _, h, _⟩; exact ⟨_, h⟩) | exact sure_body (by rintro _ _ ⟨_, _, _, _, _, _, _, _, _, _, _, h, _⟩; exact ⟨_, h⟩) | exact sure_body (by rintro _ _ ⟨h, _⟩; exact ⟨_, h⟩)) | refine sure_then ?_ | refine sure_block ?_ | refine sure_join ?_) (by kernel_rfl) ?_
 intro w97 hk96 he98 L hL99
 have hsz100 := Keep.size hk96
 replace hb4 := hb4.k0 hk96
 replace hb21 := hb21.k0 hk96
 replace hA78 := hA78.keep0 hk96
 replace hK0 := hK0.tn hk96
 replace ho56 := ho56.keep hk96 nk
 replace ho80 := ho80.keep hk96 nk
 replace ho83 := ho83.keep hk96 nk
 have qhb4 := hb4
 have qhb21 := hb21
 have qhA78 := hA78
 have K101 : Keep none_ w97 w97 := Keep.refl _ _
 obtain rfl := List.mem_singleton.1 hL99
 refine Gn [3, 4, 5, 6, 7, 8, 9, 10, 11, 12, 13] [1, 2, 3, 4, 43] ?_
 refine Gc0 34 (.tmp 43) 2 (pt r11) (some 44) qhb21 rfl ?_
 refine Gn [7, 8, 9, 10, 11, 12, 13] [1, 2, 3, 4, 44, 47] ?_
 refine Gc0 32 (.tmp 47) 0 (pt l14) (some 48) qhb21 rfl ?_
 refine Gn [11, 12, 13] [2, 3, 4, 44, 48, 51] ?_
 refine Gc0 33 (.tmp 51) 1 (pt v13) (some 52) qhb21 rfl ?_
 refine Gk0 (kl 22 #[(.tmp 44), (.tmp 48), (.tmp 52), (.const (nt 30))] #[34, 32, 33, 3]) 22 #[pt r11, pt l14, pt v13, nt 30] (some 53) (service_spec F79 r11 gg12 [(plainT)] kwQ2.rs F82 v13 kwQ2.s F55 l14 kwQ2.xs kwQ2.cs 30 _ ho80 ho83 ho56 hdis85 dis91 dis94) ?_
 rintro _ w104 ⟨A106, cap106, rfl, hA106, ow106, ⟨F107, F110, ho108, ho111, hfr109, hfr112, hdis113, dA114, dA115⟩, hk105⟩
 refine ⟨_, rfl, ?_⟩
 have hsz116 := Keep.size hk105
 replace hb4 := hb4.keep hk105 (fun hs => by rcases hs with hs | hs; (have u9 : _ = gg12 := hs; have u0 := own90 _ (Rfr.atg ho80); have u1 := lt89 _ (Rfr.atg ho80); omega); (have u0 := own93 _ hs; have u1 := lt92 _ hs; omega))
 replace hA78 := hA78.keep hk105 (fun q hq hs => by rcases hs with hs | hs; exact dA86 q hq (by rw [show q = gg12 from hs]; exact (Rfr.atg ho80)); exact dA87 q hq hs)
 replace hK0 := Keep.fresh hK0 hk105 (by intro i hi hs; first | exact hs | (rcases hs with hs | hs; (have u9 : _ = gg12 := hs; have u0 := own90 _ (Rfr.atg ho80); have u1 := lt89 _ (Rfr.atg ho80); omega); (have u0 := own93 i hs; have u1 := lt92 i hs; omega)))
 replace ho56 := ho56.keep hk105 (fun q hq hs => by rcases hs with hs | hs; exact (fun q h1 h2 => dis91 q h2 h1) q hq (by rw [show q = gg12 from hs]; exact (Rfr.atg ho80)); exact (fun q h1 h2 => dis94 q h2 h1) q hq hs)
 have own118 : ∀ q, F107 q → w4.heap.size ≤ q ∧ q ≠ b4 := fun q hq => by rcases hfr109 q hq with h | h; (have h1 := own90 q h; have h2 := lt89 q h; omega); omega
 have lt117 := Rfr.lt ho108
 have dis119 : ∀ q, F107 q → ¬ inA A78 q := fun q h1 h2 => by rcases hfr109 q h1 with h | h; exact (fun q h1 h2 => dA86 q h2 h1) q h h2; (have h4 := ltA78 q h2; omega)
 have dis120 : ∀ q, F107 q → ¬ F55 q := fun q h1 h2 => by rcases hfr109 q h1 with h | h; exact dis91 q h h2; (have h4 := lt66 q h2; omega)
 have own122 : ∀ q, F110 q → w4.heap.size ≤ q ∧ q ≠ b4 := fun q hq => by rcases hfr112 q hq with h | h; (have h1 := own93 q h; have h2 := lt92 q h; omega); omega
 have lt121 := VotT.lt ho111
 have dis123 : ∀ q, F110 q → ¬ inA A78 q := fun q h1 h2 => by rcases hfr112 q h1 with h | h; exact (fun q h1 h2 => dA87 q h2 h1) q h h2; (have h4 := ltA78 q h2; omega)
 have dis124 : ∀ q, F110 q → ¬ F55 q := fun q h1 h2 => by rcases hfr112 q h1 with h | h; exact dis94 q h h2; (have h4 := lt66 q h2; omega)
 have ltA106 := SlT.lt hA106
 have dis125 : ∀ q, inA A106 q → ¬ F55 q := fun q h1 h2 => by have h3 := ow106 q h1; have h4 := lt66 q h2; omega
 replace hA106 := SlT.ofE (xs := (rwEvs [(plainT)] kwQ2 30)) hA106 (show _ = [Evt.mk 1 0 4] from kw3)
 replace ho108 : Rfr F107 w104 r11 gg12 [(plainT)] kwQ3.rs := ho108
 replace ho111 : VotT F110 w104 v13 kwQ3.s := ho111
 replace ho56 : Led F55 w104 l14 kwQ3.xs kwQ3.cs := ho56
 refine Gp_ [(2, nt 0), (3, nt 0), (4, .slice A78 0 cap78), (53, .slice A106 ((rwEvs [(plainT)] kwQ2 30).length) cap106)] ?_
 refine GI_eq [(2, nt 0), (3, nt 0), (4, .slice A78 0 cap78), (53, .slice A106 1 cap106)] (by rw [show (rwEvs [(plainT)] kwQ2 30) = [Evt.mk 1 0 4] from kw3]; rfl) ?_
 refine Gn [] [2, 3, 4, 5] ?_
 refine GI_end ?_
 refine X_then ?_
 refine Vr ?_
 refine On 18 [70, 71] ?_
 obtain ⟨b126, o126, L126, T126, rfl, hat126⟩ := SlT.open_ hA106 (by first | omega | (simp only [List.length_map]; omega) | (simp; done) | (simp; omega))
 have hb126lt := hat126.blk.lt
 have hob127 := ow106 b126 ⟨_, rfl, rfl⟩
 have hob128 := ltA106 b126 ⟨_, rfl, rfl⟩
 have hne129 : ∀ q, F55 q → q ≠ b126 := fun q hq hs => (fun q h1 h2 => dis125 q h2 h1) q hq ⟨_, rfl, hs⟩
 have own130 := fun q hq => And.intro (own67 q hq) (hne129 q hq)
 have hne131 : ∀ q, F107 q → q ≠ b126 := fun q hq hs => (fun q h1 h2 => dA114 q h2 h1) q hq ⟨_, rfl, hs⟩
 have own132 := fun q hq => And.intro (own118 q hq) (hne131 q hq)
 have hne133 : ∀ q, F110 q → q ≠ b126 := fun q hq hs => (fun q h1 h2 => dA115 q h2 h1) q hq ⟨_, rfl, hs⟩
 have own134 := fun q hq => And.intro (own122 q hq) (hne133 q hq)
 refine Oi (b := b126) (o := o126) (len := 1) (cap := cap106) (j := 0) (some 72) 50 (.tmp 71) (.const (Value.int IntKind.i64 0)) 53 3 24 .i64 ?_
 refine Oa 53 (.tmp 72) (o126 + 0 * 3) (Evt.cells (Evt.mk 1 0 4)) (some 73) 3 hat126.blk (At.elem' hat126 (es_at (rfl : ([Evt.mk 1 0 4] : List Evt)[0]? = some (Evt.mk 1 0 4)))) (At.len hat126 (es_at (rfl : ([Evt.mk 1 0 4] : List Evt)[0]? = some (Evt.mk 1 0 4)))) ?_
 refine On 21 [70, 73, 74] ?_
 refine OI_pure (some 75) ((Op.binOp BinOp.eql 53 (Operand.tmp 73) (Operand.tmp 74) 53)) (by kernel_rfl) (pure_eql_same (xs := Evt.cells (Evt.mk 1 0 4)) (by kernel_rfl) (by kernel_rfl) (by kernel_rfl) (by kernel_rfl)) ?_
 refine Ose [(0, .bool true)] ?_
 refine V_ret ?_
 exact X_return (.bool true) rfl ⟨rfl, hK0⟩
end Go.Al

namespace Go.Al
open Go Go.RowKit Go.Proofs
theorem atI_flat {a x : Int} (h : 0 ≤ a ∧ a ≤ 1000000000) : atI ⟨1, a, a, 1, 0⟩ x = a := by
  unfold atI
  rw [if_pos rfl]
  split
  · rfl
  · show w64 (a - w64 (Int.tdiv (w64 (w64 (a - a) * heldI x 0 1000000000)) 1)) = a
    rw [Int.sub_self, show w64 0 = 0 from rfl, Int.zero_mul, show w64 0 = 0 from rfl, Int.zero_tdiv, show w64 0 = 0 from rfl, Int.sub_zero]
    exact w64_id (by omega) (by omega)
theorem pass_flat {t : Trk} {y : Tly} {iss el a b : Int} (ha : t.app = ⟨1, a, a, 1, 0⟩) (hb : t.sup = ⟨1, b, b, 1, 0⟩) (h1 : 0 ≤ a ∧ a ≤ 1000000000) (h2 : 0 ≤ b ∧ b ≤ 1000000000) : passB t y iss el = (decide (apprI y ≥ a) && decide (ratioI y.s iss ≥ b)) := by
  unfold passB
  rw [ha, hb, atI_flat h1, atI_flat h2]
end Go.Al

namespace Go.Al
open Go Go.RowKit Go.Proofs
def cfT (p d c : Int) : Trk := { plainT with prepare := p, decision := d, confirm := c, sup := ⟨1, 10000000, 10000000, 1, 0⟩ }
theorem cf_ok {p d c : Int} (hp : 0 ≤ p ∧ p ≤ 10) (hd : 1 ≤ d ∧ d ≤ 20) (hc : 0 ≤ c ∧ c ≤ 20) : okTs [cfT p d c] := by
  refine ⟨Nat.le_refl 1, (by decide : 1 ≤ 4), fun t ht => ?_⟩
  rw [List.mem_singleton.1 ht]
  exact ⟨(by decide : (1 : Int) ≤ 1 ∧ (1 : Int) ≤ 12), (by decide : (0 : Int) ≤ 20 ∧ (20 : Int) ≤ 1073741824), (by decide : (0 : Int) ≤ 50 ∧ (50 : Int) ≤ 1073741824), (by omega : 0 ≤ p ∧ p ≤ 1000), (by omega : 0 ≤ c ∧ c ≤ 1000), (by decide : (0 : Int) ≤ 1 ∧ (1 : Int) ≤ 1000), (by omega : 1 ≤ d ∧ d ≤ 1000),
    (by decide : okCrv ⟨1, 500000000, 500000000, 1, 0⟩), (by decide : okCrv ⟨1, 10000000, 10000000, 1, 0⟩), (by decide : (0 : Int) ≤ 2 ∧ (2 : Int) ≤ 2)⟩
def cfX : List Acc := resX (resX rfX [] 1 10) [] 2 20
def cfS0 : VS := openS VS.zero 0 0
def cfR : Rfm := { newR 0 z0 0 0 1 with backer := 2 }
def cfQ0 (p d c : Int) : RW := rwDep [cfT p d c] (rwSub [cfT p d c] rwQ0 1 0 0 z0 0) 2 0
theorem cf_dep (p d c : Int) : cfQ0 p d c = ⟨cfX, [], cfS0, [cfR]⟩ := by kernel_rfl
theorem voteE_go {xs : List Acc} {s : VS} {who ref : Int} {x : Vt} {q : PollS} (h1 : 0 ≤ who ∧ who ≤ 9) (h2 : okV x) (hp : pollAt s ref = some q) (hs : q.state = 0) (hd : (s.rc who q.track).d.isSome = false) (hf : capI x ≤ (acct xs who).free) (hr : (vrow s who q.track).length < 6) : voteE xs s who ref x = 0 := by
  unfold voteE
  rw [if_neg (by rintro (h | h); exact h h1; exact h h2), hp]
  show (if ¬ q.state = 0 then 9 else _) = _
  rw [if_neg (fun h => h hs), if_neg (by rw [hd]; decide), if_neg (by omega), if_neg (by rintro ⟨_, h⟩; omega)]
theorem voteS_go {xs : List Acc} {s : VS} {who ref : Int} {x : Vt} {q : PollS} (h : voteE xs s who ref x = 0) (hp : pollAt s ref = some q) : voteS xs s who ref x = { s.setP ref.toNat { q with t := voteT s who ref x q } with cs := GV.setC who ref x s.cs } := by
  unfold voteS
  rw [if_pos h, hp]
def cfA (a : Int) : Vt := ⟨1, true, 1, a, 0, 0⟩
def cfN (n : Int) : Vt := ⟨1, false, 1, n, 0, 0⟩
theorem cf_cap {b : Bool} {a : Int} (h : 0 ≤ a ∧ a ≤ 1000) : capI ⟨1, b, 1, a, 0, 0⟩ = a := by
  show w64 (w64 (a + 0) + 0) = a
  rw [Int.add_zero, Int.add_zero, w64_id (x := a) (by omega) (by omega), w64_id (by omega) (by omega)]
theorem cf_okV {b : Bool} {a : Int} (h : 0 ≤ a ∧ a ≤ 1000) : okV ⟨1, b, 1, a, 0, 0⟩ := by
  refine ⟨?_, .inl ⟨rfl, (by decide : (0 : Int) ≤ 1), (by decide : (1 : Int) ≤ 6), rfl, rfl⟩⟩
  show 0 ≤ a ∧ a ≤ 1073741824 ∧ (0 : Int) ≤ 0 ∧ (0 : Int) ≤ 1073741824 ∧ (0 : Int) ≤ 0 ∧ (0 : Int) ≤ 1073741824 ∧ a + 0 + 0 ≤ 1073741824
  omega
def cfS1 (a : Int) : VS := voteS cfX cfS0 3 0 (cfA a)
def cfS2 (a n : Int) : VS := voteS cfX (cfS1 a) 4 0 (cfN n)
def cfC1 (a : Int) : List Ci := voteC cfX [] cfS0 3 0 (cfA a)
def cfC2 (a n : Int) : List Ci := voteC cfX (cfC1 a) (cfS1 a) 4 0 (cfN n)
theorem cf_free (i : Int) (h : i = 3 ∨ i = 4) : (acct cfX i).free = 1000 := by rcases h with rfl | rfl <;> kernel_rfl
theorem cf_p0 : pollAt cfS0 0 = some ⟨0, Tly.zero, 0, 0⟩ := by kernel_rfl
theorem cf_v1 {a : Int} (h : 0 ≤ a ∧ a ≤ 1000) : voteE cfX cfS0 3 0 (cfA a) = 0 :=
  voteE_go (by decide) (cf_okV h) cf_p0 rfl (by kernel_rfl) (by rw [cf_free 3 (.inl rfl)]; show capI ⟨1, true, 1, a, 0, 0⟩ ≤ 1000; rw [cf_cap h]; omega) (by rw [show (vrow cfS0 3 0).length = 0 by kernel_rfl]; decide)
def cfU1 (a : Int) : VS := { cfS0.setP 0 ⟨0, addT Tly.zero (gainT (cfA a) ⟨0, 0⟩), 0, 0⟩ with cs := GV.setC 3 0 (cfA a) [] }
theorem cf_s1 {a : Int} (h : 0 ≤ a ∧ a ≤ 1000) : cfS1 a = cfU1 a := (voteS_go (cf_v1 h) cf_p0).trans (by kernel_rfl)
theorem cf_v2 {a n : Int} (h : 0 ≤ a ∧ a ≤ 1000) (hn : 0 ≤ n ∧ n ≤ 1000) : voteE cfX (cfS1 a) 4 0 (cfN n) = 0 := by
  rw [cf_s1 h]
  exact voteE_go (q := ⟨0, addT Tly.zero (gainT (cfA a) ⟨0, 0⟩), 0, 0⟩) (by decide) (cf_okV hn) rfl rfl (by kernel_rfl) (by rw [cf_free 4 (.inr rfl)]; show capI ⟨1, false, 1, n, 0, 0⟩ ≤ 1000; rw [cf_cap hn]; omega) (by rw [show (vrow (cfU1 a) 4 0).length = 0 by kernel_rfl]; decide)
theorem cf_tally {a n : Int} (h : 0 ≤ a ∧ a ≤ 1000) (hn : 0 ≤ n ∧ n ≤ 1000) : tallyT (cfS2 a n) 0 = ⟨a, n, a⟩ := by
  have hv := cf_v2 h hn
  have e : cfS2 a n = { (cfU1 a).setP 0 ⟨0, addT (addT Tly.zero (gainT (cfA a) ⟨0, 0⟩)) (gainT (cfN n) ⟨0, 0⟩), 0, 0⟩ with cs := GV.setC 4 0 (cfN n) (cfU1 a).cs } := by
    unfold cfS2
    rw [cf_s1 h] at hv ⊢
    exact (voteS_go (q := ⟨0, addT Tly.zero (gainT (cfA a) ⟨0, 0⟩), 0, 0⟩) hv rfl).trans (by kernel_rfl)
  rw [e]
  show Tly.mk (w64 (w64 (0 + w64 (w64 (a * 1) + 0)) + 0)) (w64 (w64 (0 + 0) + w64 (w64 (n * 1) + 0))) (w64 (w64 (0 + w64 (a + 0)) + 0)) = _
  simp only [Int.mul_one, Int.add_zero, Int.zero_add, w64_id (x := a) (by omega) (by omega), w64_id (x := n) (by omega) (by omega), show w64 0 = 0 from rfl]
theorem cf_tot : tot cfX = 10000 := by kernel_rfl
def cfP (a n : Int) : Prop := a ≥ n ∧ a ≥ 100
instance (a n : Int) : Decidable (cfP a n) := by unfold cfP; infer_instance
theorem cf_pass {p d c a n el : Int} (h : 0 ≤ a ∧ a ≤ 1000) (hn : 0 ≤ n ∧ n ≤ 1000) : passB (cfT p d c) ⟨a, n, a⟩ 10000 el = decide (cfP a n) := by
  rw [pass_flat (a := 500000000) (b := 10000000) rfl rfl (by decide) (by decide)]
  have h1 : ratioI a 10000 = a * 100000 := by
    unfold ratioI
    rw [if_neg (by decide), w64_id (x := a * 1000000000) (by omega) (by omega), Int.tdiv_eq_ediv_of_nonneg (by omega), w64_id (by omega) (by omega)]
    unfold imin; split <;> omega
  have h2 : apprI ⟨a, n, a⟩ ≥ 500000000 ↔ (a + n ≠ 0 ∧ a ≥ n) := by
    show (if w64 (a + n) = 0 then (0 : Int) else imin (w64 (Int.tdiv (w64 (a * 1000000000)) (w64 (a + n)))) 1000000000) ≥ 500000000 ↔ _
    rw [w64_id (x := a + n) (by omega) (by omega)]
    by_cases h0 : a + n = 0
    · rw [if_pos h0]; omega
    · rw [if_neg h0, w64_id (x := a * 1000000000) (by omega) (by omega), Int.tdiv_eq_ediv_of_nonneg (by omega)]
      have hk : 500000000 ≤ a * 1000000000 / (a + n) ↔ 500000000 * (a + n) ≤ a * 1000000000 := Int.le_ediv_iff_mul_le (by omega)
      have hl : a * 1000000000 / (a + n) ≤ a * 1000000000 := Int.ediv_le_self _ (by omega)
      have hg : 0 ≤ a * 1000000000 / (a + n) := Int.ediv_nonneg (by omega) (by omega)
      rw [w64_id (by omega) (by omega)]
      unfold imin; split <;> omega
  apply Bool.eq_iff_iff.2
  simp only [Bool.and_eq_true, decide_eq_true_eq]
  rw [h2]
  show _ ∧ ratioI a 10000 ≥ 10000000 ↔ a ≥ n ∧ a ≥ 100
  rw [h1]; omega
def cfBe (p : Int) : Int := imax p 1
theorem cfBe_at {p : Int} (h : 0 ≤ p ∧ p ≤ 10) : 1 ≤ cfBe p ∧ cfBe p ≤ 10 ∧ p ≤ cfBe p ∧ (p ≥ 1 → cfBe p = p) ∧ (p < 1 → cfBe p = 1) := by
  unfold cfBe imax; split <;> omega
def cfEn (p d c a n : Int) : Int := if cfP a n then cfBe p + c else cfBe p + d
def cfSt (a n : Int) : Int := if cfP a n then 2 else 3
def cfTi (p c a n : Int) : Int := if cfP a n then cfBe p + c else -1
def cfY (be till : Int) : Rfm := { cfR with since := be, till := till }
theorem begK_one {t : Trk} {s : VS} {now : Int} {y : Rfm} (h : waitB [t] 0 now y = false) : begK [t] s now [y] [t].length = [y] := by
  show begR [t] s now [y] 0 = _
  have e : waitL [t] 0 now 0 [y] = [] := by
    show (if waitB [t] 0 now y = true then _ else _) = _
    rw [h]; rfl
  unfold begR begL
  rw [e, show sortD (fun r => (tallyT s r).a) [] = [] from rfl, List.take_nil]; rfl
theorem begK_beg {t : Trk} {s : VS} {now : Int} {y : Rfm} (h : waitB [t] 0 now y = true) (hs : y.since = -1) (hm : t.most = 1) : begK [t] s now [y] [t].length = [{ y with since := now }] := by
  show begR [t] s now [y] 0 = _
  have e : waitL [t] 0 now 0 [y] = [0] := by
    show (if waitB [t] 0 now y = true then _ else _) = _
    rw [h]; rfl
  have ed : decN 0 [y] = 0 := by
    show (if decB 0 y = true then (1 : Int) else 0) + 0 = 0
    have : decB 0 y = false := by
      unfold decB
      rw [decide_eq_false (show ¬ (y.since ≠ -1) from fun h9 => h9 hs), Bool.and_false]
    rw [this]; rfl
  have em : (trkA [t] 0).most = 1 := hm
  unfold begR begL
  rw [e, ed, em]; rfl
theorem svc_one {t : Trk} {xs : List Acc} {s : VS} {y z : Rfm} {now : Int} (h : begK [t] s now [y] [t].length = [z]) : svcQ [t] xs s [y] now = svcStep [t] (tot xs) now 0 z ⟨s, [z], []⟩ := by
  unfold svcQ
  rw [h]; rfl
theorem cf_dec {p d c a n now : Int} (hp : 0 ≤ p ∧ p ≤ 10) (hd : 1 ≤ d ∧ d ≤ 20) (hc : 0 ≤ c ∧ c ≤ 20) (ha : 0 ≤ a ∧ a ≤ 1000) (hn : 0 ≤ n ∧ n ≤ 1000) {t0 : Int} (hnow : cfBe p ≤ now ∧ now ≤ 60) (ht : t0 = cfTi p c a n ∨ (t0 = -1 ∧ now = cfBe p)) : decE [cfT p d c] (cfY (cfBe p) t0) ⟨a, n, a⟩ 10000 now = (if now ≥ cfEn p d c a n then cfSt a n else 0) ∧ decY [cfT p d c] (cfY (cfBe p) t0) ⟨a, n, a⟩ 10000 now = cfY (cfBe p) (cfTi p c a n) := by
  obtain ⟨b1, b2, b3, b4, b5⟩ := cfBe_at hp
  have hsi : ¬ (cfY (cfBe p) t0).since = -1 := by show ¬ cfBe p = -1; omega
  have hti : tillI [cfT p d c] (cfY (cfBe p) t0) ⟨a, n, a⟩ 10000 now = cfTi p c a n := by
    show (if passB (cfT p d c) ⟨a, n, a⟩ 10000 _ = false then (-1 : Int) else if t0 = -1 then w64 (now + c) else t0) = _
    rw [cf_pass ha hn]
    unfold cfTi at ht ⊢
    by_cases hP : cfP a n
    · rw [if_pos hP] at ht ⊢
      rw [decide_eq_true hP, if_neg (by decide)]
      rcases ht with rfl | ⟨rfl, rfl⟩
      · rw [if_neg (by omega)]
      · rw [if_pos rfl, w64_id (by omega) (by omega)]
    · rw [if_neg hP, decide_eq_false hP, if_pos rfl]
  constructor
  · unfold decE
    rw [if_neg hsi, hti]
    show (if cfTi p c a n ≠ -1 ∧ cfTi p c a n ≤ now then (2 : Int) else if cfTi p c a n = -1 ∧ w64 (now - cfBe p) ≥ d then 3 else 0) = _
    rw [w64_id (by omega) (by omega)]
    unfold cfTi cfEn cfSt
    by_cases hP : cfP a n
    · simp only [if_pos hP]
      by_cases h : now ≥ cfBe p + c
      · rw [if_pos ⟨by omega, by omega⟩, if_pos h]
      · rw [if_neg (by omega), if_neg (by omega), if_neg h]
    · simp only [if_neg hP]
      rw [if_neg (by omega)]
      by_cases h : now ≥ cfBe p + d
      · rw [if_pos ⟨by first | rfl | trivial, by omega⟩, if_pos h]
      · rw [if_neg (by omega), if_neg h]
  · unfold decY
    rw [if_neg hsi, hti]; rfl
theorem cf_w {p d c now : Int} (hnow : 1 ≤ now ∧ now ≤ 60) : waitB [cfT p d c] 0 now cfR = decide (now ≥ p) := by
  show (true && (true && decide (w64 (now - 0) ≥ p))) = _
  rw [w64_id (by omega) (by omega), Bool.true_and, Bool.true_and, Int.sub_zero]
def cfAq (a n : Int) : RW := ⟨cfX, cfC2 a n, cfS2 a n, [cfR]⟩
def cfBq (p c a n : Int) : RW := ⟨cfX, cfC2 a n, cfS2 a n, [cfY (cfBe p) (cfTi p c a n)]⟩
def cfDq (p d c a n : Int) : RW := ⟨cfX, cfC2 a n, closeS (cfS2 a n) 0 (cfSt a n) (cfEn p d c a n), [endY (cfS2 a n) (cfY (cfBe p) (cfTi p c a n)) 0 (cfSt a n) (cfEn p d c a n)]⟩
def cfV (p d c a n : Int) : Nat → RW
  | 0 => rwVot (rwVot (cfQ0 p d c) 3 0 (cfA a)) 4 0 (cfN n)
  | i + 1 => rwSvc [cfT p d c] (cfV p d c a n i) ((i + 1 : Nat) : Int)
theorem cfV0 (p d c a n : Int) : cfV p d c a n 0 = cfAq a n := by
  show rwVot (rwVot (cfQ0 p d c) 3 0 (cfA a)) 4 0 (cfN n) = _
  rw [cf_dep]; rfl
theorem cf_wait {p d c a n now : Int} (hp : 0 ≤ p ∧ p ≤ 10) (hnow : 1 ≤ now ∧ now < cfBe p) : rwSvc [cfT p d c] (cfAq a n) now = cfAq a n ∧ rwEvs [cfT p d c] (cfAq a n) now = [] := by
  obtain ⟨b1, b2, b3, b4, b5⟩ := cfBe_at hp
  have e := svc_one (xs := cfX) (begK_one (t := cfT p d c) (s := cfS2 a n) (now := now) (y := cfR) ((cf_w (p := p) (d := d) (c := c) (by omega)).trans (decide_eq_false (by omega))))
  have hE : decE [cfT p d c] cfR (tallyT (cfS2 a n) 0) (tot cfX) now = 0 := by
    show (if w64 (now - 0) ≥ 30 then (4 : Int) else 0) = 0
    rw [w64_id (by omega) (by omega), if_neg (by omega)]
  have e2 := step_on (ts := [cfT p d c]) (iss := tot cfX) (now := now) (q := ⟨cfS2 a n, [cfR], []⟩) (i := 0) (x := cfR) rfl hE
  have e3 := e.trans e2
  exact ⟨by unfold rwSvc cfAq; dsimp only; rw [e3]; rfl, by unfold rwEvs cfAq; dsimp only; rw [e3]⟩
theorem cf_at {p d c a n now : Int} (hp : 0 ≤ p ∧ p ≤ 10) (hd : 1 ≤ d ∧ d ≤ 20) (hc : 0 ≤ c ∧ c ≤ 20) (ha : 0 ≤ a ∧ a ≤ 1000) (hn : 0 ≤ n ∧ n ≤ 1000) {z : Rfm} {q : RW} {t0 : Int} (hnow : cfBe p ≤ now ∧ now ≤ 60) (ht : t0 = cfTi p c a n ∨ (t0 = -1 ∧ now = cfBe p)) (hq : q = ⟨cfX, cfC2 a n, cfS2 a n, [z]⟩) (hb : begK [cfT p d c] (cfS2 a n) now [z] [cfT p d c].length = [cfY (cfBe p) t0]) :
    (now < cfEn p d c a n → rwSvc [cfT p d c] q now = cfBq p c a n ∧ rwEvs [cfT p d c] q now = []) ∧ (now = cfEn p d c a n → rwSvc [cfT p d c] q now = cfDq p d c a n ∧ rwEvs [cfT p d c] q now = [Evt.mk 1 0 (cfSt a n)]) := by
  obtain ⟨h1, h2⟩ := cf_dec hp hd hc ha hn hnow ht
  have e := svc_one (xs := cfX) hb
  have hT : tallyT (cfS2 a n) 0 = ⟨a, n, a⟩ := cf_tally ha hn
  subst hq
  constructor
  · intro hlt
    rw [if_neg (by omega)] at h1
    have e2 := step_on (ts := [cfT p d c]) (iss := tot cfX) (now := now) (q := ⟨cfS2 a n, [cfY (cfBe p) t0], []⟩) (i := 0) (x := cfY (cfBe p) t0) rfl (by show decE _ _ (tallyT (cfS2 a n) 0) _ _ = 0; rw [hT, cf_tot]; exact h1)
    have e3 := e.trans e2
    constructor
    · unfold rwSvc cfBq; dsimp only; rw [e3]
      show RW.mk _ _ _ [decY [cfT p d c] (cfY (cfBe p) t0) (tallyT (cfS2 a n) 0) (tot cfX) now] = _
      rw [hT, cf_tot, h2]
    · unfold rwEvs; dsimp only; rw [e3]
  · intro heq
    rw [if_pos (by omega)] at h1
    have hne : cfSt a n ≠ 0 := by unfold cfSt; split <;> decide
    have e2 := step_end (ts := [cfT p d c]) (iss := tot cfX) (now := now) (q := ⟨cfS2 a n, [cfY (cfBe p) t0], []⟩) (i := 0) (x := cfY (cfBe p) t0) rfl (by show decE _ _ (tallyT (cfS2 a n) 0) _ _ ≠ 0; rw [hT, cf_tot, h1]; exact hne)
    have e3 := e.trans e2
    constructor
    · unfold rwSvc cfDq; dsimp only; rw [e3]
      show RW.mk _ _ (closeS (cfS2 a n) 0 (decE [cfT p d c] (cfY (cfBe p) t0) (tallyT (cfS2 a n) 0) (tot cfX) now) now) [endY (cfS2 a n) (decY [cfT p d c] (cfY (cfBe p) t0) (tallyT (cfS2 a n) 0) (tot cfX) now) 0 (decE [cfT p d c] (cfY (cfBe p) t0) (tallyT (cfS2 a n) 0) (tot cfX) now) now] = _
      rw [hT, cf_tot, h2, h1, heq]
    · unfold rwEvs; dsimp only; rw [e3]
      show [] ++ [Evt.mk 1 0 (decE [cfT p d c] (cfY (cfBe p) t0) (tallyT (cfS2 a n) 0) (tot cfX) now)] = _
      rw [hT, cf_tot, h1]; rfl
theorem cf_beg {p d c a n now : Int} (hp : 0 ≤ p ∧ p ≤ 10) (hd : 1 ≤ d ∧ d ≤ 20) (hc : 0 ≤ c ∧ c ≤ 20) (ha : 0 ≤ a ∧ a ≤ 1000) (hn : 0 ≤ n ∧ n ≤ 1000) (hnow : now = cfBe p) : (now < cfEn p d c a n → rwSvc [cfT p d c] (cfAq a n) now = cfBq p c a n ∧ rwEvs [cfT p d c] (cfAq a n) now = []) ∧ (now = cfEn p d c a n → rwSvc [cfT p d c] (cfAq a n) now = cfDq p d c a n ∧ rwEvs [cfT p d c] (cfAq a n) now = [Evt.mk 1 0 (cfSt a n)]) := by
  obtain ⟨b1, b2, b3, b4, b5⟩ := cfBe_at hp
  have hb := begK_beg (t := cfT p d c) (s := cfS2 a n) (now := now) (y := cfR) ((cf_w (p := p) (d := d) (c := c) (by omega)).trans (decide_eq_true (by omega))) rfl rfl
  exact cf_at hp hd hc ha hn (z := cfR) (t0 := -1) (by omega) (.inr ⟨rfl, hnow⟩) rfl (hb.trans (by rw [hnow]; rfl))
theorem cf_mid {p d c a n now : Int} (hp : 0 ≤ p ∧ p ≤ 10) (hd : 1 ≤ d ∧ d ≤ 20) (hc : 0 ≤ c ∧ c ≤ 20) (ha : 0 ≤ a ∧ a ≤ 1000) (hn : 0 ≤ n ∧ n ≤ 1000) (hnow : cfBe p < now ∧ now ≤ 60) : (now < cfEn p d c a n → rwSvc [cfT p d c] (cfBq p c a n) now = cfBq p c a n ∧ rwEvs [cfT p d c] (cfBq p c a n) now = []) ∧ (now = cfEn p d c a n → rwSvc [cfT p d c] (cfBq p c a n) now = cfDq p d c a n ∧ rwEvs [cfT p d c] (cfBq p c a n) now = [Evt.mk 1 0 (cfSt a n)]) := by
  obtain ⟨b1, b2, b3, b4, b5⟩ := cfBe_at hp
  have hw : waitB [cfT p d c] 0 now (cfY (cfBe p) (cfTi p c a n)) = false := by
    show (true && decide (cfBe p = -1) && _) = false
    rw [decide_eq_false (by omega)]; rfl
  exact cf_at hp hd hc ha hn (z := cfY (cfBe p) (cfTi p c a n)) (by omega) (.inl rfl) rfl (begK_one hw)
theorem cf_later {p d c a n now : Int} : rwSvc [cfT p d c] (cfDq p d c a n) now = cfDq p d c a n ∧ rwEvs [cfT p d c] (cfDq p d c a n) now = [] := by
  have hst : ¬ cfSt a n = 1 := by unfold cfSt; split <;> decide
  have hw : waitB [cfT p d c] 0 now (endY (cfS2 a n) (cfY (cfBe p) (cfTi p c a n)) 0 (cfSt a n) (cfEn p d c a n)) = false := by
    show (!(decide (cfSt a n ≠ 1) || _) && _ && _) = false
    rw [decide_eq_true hst]; rfl
  have e := svc_one (xs := cfX) (begK_one (s := closeS (cfS2 a n) 0 (cfSt a n) (cfEn p d c a n)) hw)
  have e2 := step_skip (ts := [cfT p d c]) (iss := tot cfX) (now := now) (q := ⟨closeS (cfS2 a n) 0 (cfSt a n) (cfEn p d c a n), [endY (cfS2 a n) (cfY (cfBe p) (cfTi p c a n)) 0 (cfSt a n) (cfEn p d c a n)], []⟩) (i := 0) (x := endY (cfS2 a n) (cfY (cfBe p) (cfTi p c a n)) 0 (cfSt a n) (cfEn p d c a n)) hst
  have e3 := e.trans e2
  exact ⟨by unfold rwSvc cfDq; dsimp only; rw [e3], by unfold rwEvs cfDq; dsimp only; rw [e3]⟩
theorem cfEn_at {p d c a n : Int} (hp : 0 ≤ p ∧ p ≤ 10) (hd : 1 ≤ d ∧ d ≤ 20) (hc : 0 ≤ c ∧ c ≤ 20) : cfBe p ≤ cfEn p d c a n ∧ cfEn p d c a n ≤ 30 := by
  obtain ⟨b1, b2, b3, b4, b5⟩ := cfBe_at hp
  unfold cfEn; split <;> omega
def cfF (p d c a n : Int) (i : Nat) : RW := if (i : Int) < cfBe p then cfAq a n else if (i : Int) < cfEn p d c a n then cfBq p c a n else cfDq p d c a n
def cfL (p d c a n : Int) (i : Nat) : List Evt := if ((i + 1 : Nat) : Int) = cfEn p d c a n then [Evt.mk 1 0 (cfSt a n)] else []
theorem cf_step {p d c a n : Int} (hp : 0 ≤ p ∧ p ≤ 10) (hd : 1 ≤ d ∧ d ≤ 20) (hc : 0 ≤ c ∧ c ≤ 20) (ha : 0 ≤ a ∧ a ≤ 1000) (hn : 0 ≤ n ∧ n ≤ 1000) {i : Nat} (hi : i < 60) : rwSvc [cfT p d c] (cfF p d c a n i) ((i + 1 : Nat) : Int) = cfF p d c a n (i + 1) ∧ rwEvs [cfT p d c] (cfF p d c a n i) ((i + 1 : Nat) : Int) = cfL p d c a n i := by
  obtain ⟨b1, b2, b3, b4, b5⟩ := cfBe_at hp
  obtain ⟨e1, e2⟩ := cfEn_at (p := p) (d := d) (c := c) (a := a) (n := n) hp hd hc
  unfold cfF cfL
  by_cases h1 : (i : Int) < cfBe p
  · rw [if_pos h1]
    by_cases h2 : ((i + 1 : Nat) : Int) < cfBe p
    · rw [if_pos h2, if_neg (by omega)]; exact cf_wait hp (by omega)
    · rw [if_neg h2]
      by_cases h3 : ((i + 1 : Nat) : Int) < cfEn p d c a n
      · rw [if_pos h3, if_neg (by omega)]; exact (cf_beg hp hd hc ha hn (by omega)).1 h3
      · rw [if_neg h3, if_pos (by omega)]; exact (cf_beg hp hd hc ha hn (by omega)).2 (by omega)
  · rw [if_neg h1, if_neg (by omega : ¬ ((i + 1 : Nat) : Int) < cfBe p)]
    by_cases h2 : (i : Int) < cfEn p d c a n
    · rw [if_pos h2]
      by_cases h3 : ((i + 1 : Nat) : Int) < cfEn p d c a n
      · rw [if_pos h3, if_neg (by omega)]; exact (cf_mid hp hd hc ha hn (by omega)).1 h3
      · rw [if_neg h3, if_pos (by omega)]; exact (cf_mid hp hd hc ha hn (by omega)).2 (by omega)
    · rw [if_neg h2, if_neg (by omega), if_neg (by omega)]; exact cf_later
theorem cfV_at {p d c a n : Int} (hp : 0 ≤ p ∧ p ≤ 10) (hd : 1 ≤ d ∧ d ≤ 20) (hc : 0 ≤ c ∧ c ≤ 20) (ha : 0 ≤ a ∧ a ≤ 1000) (hn : 0 ≤ n ∧ n ≤ 1000) : ∀ i : Nat, i ≤ 60 → cfV p d c a n i = cfF p d c a n i
  | 0, _ => by
    obtain ⟨b1, b2, b3, b4, b5⟩ := cfBe_at hp
    rw [cfV0]; unfold cfF; rw [if_pos (by omega)]
  | i + 1, h => by
    show rwSvc [cfT p d c] (cfV p d c a n i) _ = _
    rw [cfV_at hp hd hc ha hn i (by omega)]; exact (cf_step hp hd hc ha hn (by omega)).1
theorem cf_blk {p d c a n : Int} (hp : 0 ≤ p ∧ p ≤ 10) (hd : 1 ≤ d ∧ d ≤ 20) (hc : 0 ≤ c ∧ c ≤ 20) (ha : 0 ≤ a ∧ a ≤ 1000) (hn : 0 ≤ n ∧ n ≤ 1000) {i : Nat} (hi : i < 60) : ((((rwEvs [cfT p d c] (cfV p d c a n i) ((i + 1 : Nat) : Int)).length : Nat) : Int) = 1 ↔ ((i + 1 : Nat) : Int) = cfEn p d c a n) ∧ (getR (cfV p d c a n (i + 1)).rs 0).isSome = true ∧ ((getA (cfV p d c a n (i + 1)).rs 0).state = 1 ↔ ((i + 1 : Nat) : Int) < cfEn p d c a n) ∧
    (((i + 1 : Nat) : Int) ≥ cfEn p d c a n → (getA (cfV p d c a n (i + 1)).rs 0).state = cfSt a n ∧ (getA (cfV p d c a n (i + 1)).rs 0).stop = cfEn p d c a n) := by
  obtain ⟨b1, b2, b3, b4, b5⟩ := cfBe_at hp
  obtain ⟨e1, e2⟩ := cfEn_at (p := p) (d := d) (c := c) (a := a) (n := n) hp hd hc
  have hst : ¬ cfSt a n = 1 := by unfold cfSt; split <;> decide
  rw [cfV_at hp hd hc ha hn i (by omega), (cf_step hp hd hc ha hn hi).2, cfV_at hp hd hc ha hn (i + 1) (by omega)]
  refine ⟨?_, ?_⟩
  · unfold cfL; split
    · exact ⟨fun _ => by assumption, fun _ => rfl⟩
    · exact ⟨fun h => absurd h (by decide), fun h => absurd h (by assumption)⟩
  · unfold cfF
    by_cases h1 : ((i + 1 : Nat) : Int) < cfBe p
    · rw [if_pos h1]; exact ⟨rfl, ⟨fun _ => by omega, fun _ => rfl⟩, fun h => by omega⟩
    · rw [if_neg h1]
      by_cases h2 : ((i + 1 : Nat) : Int) < cfEn p d c a n
      · rw [if_pos h2]; exact ⟨rfl, ⟨fun _ => h2, fun _ => rfl⟩, fun h => by omega⟩
      · rw [if_neg h2]; exact ⟨rfl, ⟨fun h => absurd h hst, fun h => absurd h h2⟩, fun _ => ⟨rfl, rfl⟩⟩
def cfQ1 (p d c a : Int) : RW := rwVot (cfQ0 p d c) 3 0 (cfA a)
theorem cf_e1 {p d c a : Int} (h : 0 ≤ a ∧ a ≤ 1000) : RW.votE (cfQ0 p d c) 3 0 (cfA a) = 0 := by rw [cf_dep]; exact cf_v1 h
theorem cf_e2 {p d c a n : Int} (h : 0 ≤ a ∧ a ≤ 1000) (hn : 0 ≤ n ∧ n ≤ 1000) : RW.votE (cfQ1 p d c a) 4 0 (cfN n) = 0 := by unfold cfQ1; rw [cf_dep]; exact cf_v2 h hn
theorem cf_l0 (p d c : Int) : (cfQ0 p d c).cs.length < 100000 := by rw [cf_dep]; exact (by decide : ([] : List Ci).length < 100000)
theorem cf_l1 {p d c a : Int} (h : 0 ≤ a ∧ a ≤ 1000) : (cfQ1 p d c a).cs.length < 100000 := by
  unfold cfQ1
  rw [cf_dep]
  show (voteC cfX [] cfS0 3 0 (cfA a)).length < 100000
  unfold voteC
  rw [if_pos (cf_v1 h), cf_p0]
  show (raiseC [] 3 0 _).length < 100000
  unfold raiseC
  split
  · exact (by decide : ([] : List Ci).length < 100000)
  · unfold lockC
    split
    · split
      · exact (by decide : ([] : List Ci).length < 100000)
      · exact (by decide : 1 < 100000)
    · exact (by decide : ([] : List Ci).length < 100000)
theorem bne_iff {A B : Prop} [Decidable A] [Decidable B] (h : A ↔ B) : (!(decide A == decide B)) = false := by
  by_cases hA : A
  · rw [decide_eq_true hA, decide_eq_true (h.1 hA)]; rfl
  · rw [decide_eq_false hA, decide_eq_false (fun hB => hA (h.2 hB))]; rfl
theorem cfP_dec {a n : Int} (h1 : a ≥ n) : decide (a ≥ 100) = decide (cfP a n) := by
  by_cases h : a ≥ 100
  · rw [decide_eq_true h, decide_eq_true (show cfP a n from ⟨h1, h⟩)]
  · rw [decide_eq_false h, decide_eq_false (show ¬ cfP a n from fun h9 => h h9.2)]
theorem cfP_no1 {a n : Int} (h : ¬ a ≥ n) : ¬ cfP a n := fun h9 => h h9.1
theorem cfEn_yes {p d c a n : Int} (h : cfP a n) : cfEn p d c a n = imax p 1 + c := if_pos h
theorem cfEn_no {p d c a n : Int} (h : ¬ cfP a n) : cfEn p d c a n = imax p 1 + d := if_neg h
theorem cf_max {p : Int} (h : 0 ≤ p ∧ p ≤ 10) : 1 ≤ imax p 1 ∧ imax p 1 ≤ 10 := ⟨(cfBe_at h).1, (cfBe_at h).2.1⟩
end Go.Al

namespace Go.Al
open Go Go.RowKit Go.Proofs
set_option maxRecDepth 10000 in
set_option maxHeartbeats 2000000 in
theorem walk_ReferConfirms (prepare decision confirm ayes nays : Int) (w : World) : Calls Tryz.prog 10 #[nt prepare, nt decision, nt confirm, nt ayes, nt nays] w (rk_ w (.bool true)) := by
 have hK0 : Keep none_ w w := Keep.refl _ _
 have hzhK0 := Keep.size hK0
 refine enterV Tryz.func10 rfl [nt prepare, nt decision, nt confirm, nt ayes, nt nays] 200 rfl rfl rfl ?_
 refine Vr ?_
 refine On 1 [0, 1, 2, 3, 4] ?_
 refine Oe ?_
 refine V_seq ?_
 refine Vr ?_
 refine Os 3 [(0, nt prepare), (1, nt decision), (2, nt confirm), (3, nt ayes), (4, nt nays), (25, .bool (decide (prepare < 0)))] ?_
 by_cases hg1 : prepare < 0
 ·
  refine OI_eq [(0, nt prepare), (1, nt decision), (2, nt confirm), (3, nt ayes), (4, nt nays), (25, .bool true)] (by first | rw [decide_eq_true hg1] | simp [hg1] | rfl) ?_
  refine Ose [(0, nt prepare), (1, nt decision), (2, nt confirm), (3, nt ayes), (4, nt nays), (60, .bool true)] ?_
  refine V_true rfl ?_
  refine Vs [(10, .bool true)] ?_
  refine V_ret ?_
  refine X_ret_then ?_
  exact X_return (.bool true) rfl ⟨rfl, hK0⟩
 refine OI_eq [(0, nt prepare), (1, nt decision), (2, nt confirm), (3, nt ayes), (4, nt nays), (25, .bool false)] (by first | rw [decide_eq_false hg1] | simp [hg1] | rfl) ?_
 refine Os 7 [(0, nt prepare), (1, nt decision), (2, nt confirm), (3, nt ayes), (4, nt nays), (29, .bool (decide (prepare > 10)))] ?_
 by_cases hg2 : prepare > 10
 ·
  refine OI_eq [(0, nt prepare), (1, nt decision), (2, nt confirm), (3, nt ayes), (4, nt nays), (29, .bool true)] (by first | rw [decide_eq_true hg2] | simp [hg2] | rfl) ?_
  refine Ose [(0, nt prepare), (1, nt decision), (2, nt confirm), (3, nt ayes), (4, nt nays), (60, .bool true)] ?_
  refine V_true rfl ?_
  refine Vs [(10, .bool true)] ?_
  refine V_ret ?_
  refine X_ret_then ?_
  exact X_return (.bool true) rfl ⟨rfl, hK0⟩
 refine OI_eq [(0, nt prepare), (1, nt decision), (2, nt confirm), (3, nt ayes), (4, nt nays), (29, .bool false)] (by first | rw [decide_eq_false hg2] | simp [hg2] | rfl) ?_
 refine Os 11 [(0, nt prepare), (1, nt decision), (2, nt confirm), (3, nt ayes), (4, nt nays), (33, .bool (decide (decision < 1)))] ?_
 by_cases hg3 : decision < 1
 ·
  refine OI_eq [(0, nt prepare), (1, nt decision), (2, nt confirm), (3, nt ayes), (4, nt nays), (33, .bool true)] (by first | rw [decide_eq_true hg3] | simp [hg3] | rfl) ?_
  refine Ose [(0, nt prepare), (1, nt decision), (2, nt confirm), (3, nt ayes), (4, nt nays), (60, .bool true)] ?_
  refine V_true rfl ?_
  refine Vs [(10, .bool true)] ?_
  refine V_ret ?_
  refine X_ret_then ?_
  exact X_return (.bool true) rfl ⟨rfl, hK0⟩
 refine OI_eq [(0, nt prepare), (1, nt decision), (2, nt confirm), (3, nt ayes), (4, nt nays), (33, .bool false)] (by first | rw [decide_eq_false hg3] | simp [hg3] | rfl) ?_
 refine Os 15 [(0, nt prepare), (1, nt decision), (2, nt confirm), (3, nt ayes), (4, nt nays), (37, .bool (decide (decision > 20)))] ?_
 by_cases hg4 : decision > 20
 ·
  refine OI_eq [(0, nt prepare), (1, nt decision), (2, nt confirm), (3, nt ayes), (4, nt nays), (37, .bool true)] (by first | rw [decide_eq_true hg4] | simp [hg4] | rfl) ?_
  refine Ose [(0, nt prepare), (1, nt decision), (2, nt confirm), (3, nt ayes), (4, nt nays), (60, .bool true)] ?_
  refine V_true rfl ?_
  refine Vs [(10, .bool true)] ?_
  refine V_ret ?_
  refine X_ret_then ?_
  exact X_return (.bool true) rfl ⟨rfl, hK0⟩
 refine OI_eq [(0, nt prepare), (1, nt decision), (2, nt confirm), (3, nt ayes), (4, nt nays), (37, .bool false)] (by first | rw [decide_eq_false hg4] | simp [hg4] | rfl) ?_
 refine Os 19 [(0, nt prepare), (1, nt decision), (2, nt confirm), (3, nt ayes), (4, nt nays), (41, .bool (decide (confirm < 0)))] ?_
 by_cases hg5 : confirm < 0
 ·
  refine OI_eq [(0, nt prepare), (1, nt decision), (2, nt confirm), (3, nt ayes), (4, nt nays), (41, .bool true)] (by first | rw [decide_eq_true hg5] | simp [hg5] | rfl) ?_
  refine Ose [(0, nt prepare), (1, nt decision), (2, nt confirm), (3, nt ayes), (4, nt nays), (60, .bool true)] ?_
  refine V_true rfl ?_
  refine Vs [(10, .bool true)] ?_
  refine V_ret ?_
  refine X_ret_then ?_
  exact X_return (.bool true) rfl ⟨rfl, hK0⟩
 refine OI_eq [(0, nt prepare), (1, nt decision), (2, nt confirm), (3, nt ayes), (4, nt nays), (41, .bool false)] (by first | rw [decide_eq_false hg5] | simp [hg5] | rfl) ?_
 refine Os 23 [(0, nt prepare), (1, nt decision), (2, nt confirm), (3, nt ayes), (4, nt nays), (45, .bool (decide (confirm > 20)))] ?_
 by_cases hg6 : confirm > 20
 ·
  refine OI_eq [(0, nt prepare), (1, nt decision), (2, nt confirm), (3, nt ayes), (4, nt nays), (45, .bool true)] (by first | rw [decide_eq_true hg6] | simp [hg6] | rfl) ?_
  refine Ose [(0, nt prepare), (1, nt decision), (2, nt confirm), (3, nt ayes), (4, nt nays), (60, .bool true)] ?_
  refine V_true rfl ?_
  refine Vs [(10, .bool true)] ?_
  refine V_ret ?_
  refine X_ret_then ?_
  exact X_return (.bool true) rfl ⟨rfl, hK0⟩
 refine OI_eq [(0, nt prepare), (1, nt decision), (2, nt confirm), (3, nt ayes), (4, nt nays), (45, .bool false)] (by first | rw [decide_eq_false hg6] | simp [hg6] | rfl) ?_
 refine Os 27 [(0, nt prepare), (1, nt decision), (2, nt confirm), (3, nt ayes), (4, nt nays), (49, .bool (decide (ayes < 0)))] ?_
 by_cases hg7 : ayes < 0
 ·
  refine OI_eq [(0, nt prepare), (1, nt decision), (2, nt confirm), (3, nt ayes), (4, nt nays), (49, .bool true)] (by first | rw [decide_eq_true hg7] | simp [hg7] | rfl) ?_
  refine Ose [(0, nt prepare), (1, nt decision), (2, nt confirm), (3, nt ayes), (4, nt nays), (60, .bool true)] ?_
  refine V_true rfl ?_
  refine Vs [(10, .bool true)] ?_
  refine V_ret ?_
  refine X_ret_then ?_
  exact X_return (.bool true) rfl ⟨rfl, hK0⟩
 refine OI_eq [(0, nt prepare), (1, nt decision), (2, nt confirm), (3, nt ayes), (4, nt nays), (49, .bool false)] (by first | rw [decide_eq_false hg7] | simp [hg7] | rfl) ?_
 refine Os 31 [(0, nt prepare), (1, nt decision), (2, nt confirm), (3, nt ayes), (4, nt nays), (53, .bool (decide (ayes > 1000)))] ?_
 by_cases hg8 : ayes > 1000
 ·
  refine OI_eq [(0, nt prepare), (1, nt decision), (2, nt confirm), (3, nt ayes), (4, nt nays), (53, .bool true)] (by first | rw [decide_eq_true hg8] | simp [hg8] | rfl) ?_
  refine Ose [(0, nt prepare), (1, nt decision), (2, nt confirm), (3, nt ayes), (4, nt nays), (60, .bool true)] ?_
  refine V_true rfl ?_
  refine Vs [(10, .bool true)] ?_
  refine V_ret ?_
  refine X_ret_then ?_
  exact X_return (.bool true) rfl ⟨rfl, hK0⟩
 refine OI_eq [(0, nt prepare), (1, nt decision), (2, nt confirm), (3, nt ayes), (4, nt nays), (53, .bool false)] (by first | rw [decide_eq_false hg8] | simp [hg8] | rfl) ?_
 refine Os 35 [(0, nt prepare), (1, nt decision), (2, nt confirm), (3, nt ayes), (4, nt nays), (57, .bool (decide (nays < 0)))] ?_
 by_cases hg9 : nays < 0
 ·
  refine OI_eq [(0, nt prepare), (1, nt decision), (2, nt confirm), (3, nt ayes), (4, nt nays), (57, .bool true)] (by first | rw [decide_eq_true hg9] | simp [hg9] | rfl) ?_
  refine Ose [(0, nt prepare), (1, nt decision), (2, nt confirm), (3, nt ayes), (4, nt nays), (60, .bool true)] ?_
  refine V_true rfl ?_
  refine Vs [(10, .bool true)] ?_
  refine V_ret ?_
  refine X_ret_then ?_
  exact X_return (.bool true) rfl ⟨rfl, hK0⟩
 refine OI_eq [(0, nt prepare), (1, nt decision), (2, nt confirm), (3, nt ayes), (4, nt nays), (57, .bool false)] (by first | rw [decide_eq_false hg9] | simp [hg9] | rfl) ?_
 refine Ose [(0, nt prepare), (1, nt decision), (2, nt confirm), (3, nt ayes), (4, nt nays), (60, .bool (decide (nays > 1000)))] ?_
 refine V_if (nays > 1000) (by kernel_rfl) (fun hc10 => ?_) (fun hc10 => ?_)
 ·
  refine Vs [(10, .bool true)] ?_
  refine V_ret ?_
  refine X_ret_then ?_
  exact X_return (.bool true) rfl ⟨rfl, hK0⟩
 refine V_skip ?_
 refine X_then ?_
 refine Vr ?_
 refine Ok (kl 16 #[] #[]) 16 #[] (some 61) (plain_spec _) ?_
 rintro _ w11 ⟨rfl, hk12⟩
 refine ⟨_, rfl, ?_⟩
 have hsz13 := Keep.size hk12
 replace hK0 := hK0.tn hk12
 refine OI_alloc 27 (.agg (Trk.cells Trk.zero).toArray) (Trk.cells Trk.zero) (some 11) (by kernel_rfl) (by kernel_rfl) (by kernel_rfl) ?_
 intro b14 w14 e14 hb14 k14 z14
 have hsz15 := Keep.size k14
 replace hK0 := hK0.tn k14
 have hb14lt := hb14.lt
 refine Otg 27 (.tmp 11) (.tmp 61) 0 (Trk.cells plainT) hb14 (Trk.len _) (Trk.one _) ?_
 intro w16 hb14_19 hk17 hz18
 replace hb14_19 : Blk w16 b14 (Trk.cells plainT) 27 := (Blk.eqL (Trk.over _ _) hb14_19)
 have hsz20 := Keep.size hk17
 replace hK0 := Keep.fr hK0 hk17
 refine Oer ?_
 refine On 4 [0, 1, 2, 3, 4, 11, 62, 63, 64, 65] ?_
 refine Ot 3 (.tmp 65) (.tmp 62) 2 (nt prepare) hb14_19 ?_
 intro w21 hb14_24 hk22 hz23
 replace hb14_24 : Blk w21 b14 (Trk.cells { plainT with prepare := prepare }) 27 := (Blk.eqL (by kernel_rfl) hb14_24)
 have hsz25 := Keep.size hk22
 replace hK0 := Keep.fr hK0 hk22
 refine On 6 [0, 1, 2, 3, 4, 11, 63, 64, 66] ?_
 refine Ot 3 (.tmp 66) (.tmp 63) 3 (nt decision) hb14_24 ?_
 intro w26 hb14_29 hk27 hz28
 replace hb14_29 : Blk w26 b14 (Trk.cells { plainT with prepare := prepare, decision := decision }) 27 := (Blk.eqL (by kernel_rfl) hb14_29)
 have hsz30 := Keep.size hk27
 replace hK0 := Keep.fr hK0 hk27
 refine On 8 [0, 1, 2, 3, 4, 11, 64, 67] ?_
 refine Ot 3 (.tmp 67) (.tmp 64) 4 (nt confirm) hb14_29 ?_
 intro w31 hb14_34 hk32 hz33
 replace hb14_34 : Blk w31 b14 (Trk.cells { plainT with prepare := prepare, decision := decision, confirm := confirm }) 27 := (Blk.eqL (by kernel_rfl) hb14_34)
 have hsz35 := Keep.size hk32
 replace hK0 := Keep.fr hK0 hk32
 refine Oer ?_
 refine On 2 [0, 1, 2, 3, 4, 11, 68, 69] ?_
 refine Otg 25 (.tmp 69) (.tmp 68) 11 (Crv.cells (Crv.mk 1 10000000 10000000 1 0)) hb14_34 (Crv.len _) (Crv.one _) ?_
 intro w36 hb14_39 hk37 hz38
 replace hb14_39 : Blk w36 b14 (Trk.cells { plainT with prepare := prepare, decision := decision, confirm := confirm, sup := (Crv.mk 1 10000000 10000000 1 0) }) 27 := (Blk.eqL (by kernel_rfl) hb14_39)
 have hsz40 := Keep.size hk37
 replace hK0 := Keep.fr hK0 hk37
 refine Oer ?_
 refine Oa 27 (.tmp 11) 0 (Trk.cells { plainT with prepare := prepare, decision := decision, confirm := confirm, sup := (Crv.mk 1 10000000 10000000 1 0) }) (some 70) 18 hb14_39 (take_all (Trk.len _)) (Trk.len _) ?_
 refine OI_slit (E := 27) (zv := .agg #[nt 0, nt 0, nt 0, nt 0, nt 0, nt 0, nt 0, nt 0, nt 0, nt 0, nt 0, nt 0, nt 0, nt 0, nt 0, nt 0, nt 0, nt 0]) (sz := 18) (by_ := 144) 29 1 #[(0, (Operand.tmp 70))] [.agg (Trk.cells { plainT with prepare := prepare, decision := decision, confirm := confirm, sup := (Crv.mk 1 10000000 10000000 1 0) }).toArray] (Trk.cells { plainT with prepare := prepare, decision := decision, confirm := confirm, sup := (Crv.mk 1 10000000 10000000 1 0) }) (some 71) (by kernel_rfl) (by kernel_rfl) (by kernel_rfl) (by omega) rfl (by omega) (by intro v hv; obtain rfl := List.mem_singleton.1 hv; show (Trk.cells { plainT with prepare := prepare, decision := decision, confirm := confirm, sup := (Crv.mk 1 10000000 10000000 1 0) }).toArray.size = 18; simp [Trk.len]) (by kernel_rfl) (by show (Trk.cells { plainT with prepare := prepare, decision := decision, confirm := confirm, sup := (Crv.mk 1 10000000 10000000 1 0) }).toArray.toList ++ [] = _; simp) ?_
 intro b41 w41 e41 hb41 k41 z41
 have hsz42 := Keep.size k41
 replace hb14_39 := hb14_39.k0 k41
 replace hK0 := hK0.tn k41
 have hb41lt := hb41.lt
 refine Ok (kl 15 #[(.tmp 71)] #[29]) 15 #[sl_ b41 0 1 1] (some 72) (begin_weak (some ⟨b41, 0, none⟩) 1 [({ plainT with prepare := prepare, decision := decision, confirm := confirm, sup := (Crv.mk 1 10000000 10000000 1 0) })] _ (slt_blk (xs := [({ plainT with prepare := prepare, decision := decision, confirm := confirm, sup := (Crv.mk 1 10000000 10000000 1 0) })]) (f := Trk.cells) hb41 Trk.len rfl) (cf_ok (by omega) (by omega) (by omega))) ?_
 rintro _ w45 ⟨b47, r48, gg49, v50, l51, H52, F53, G54, xv55, yv56, zv57, rfl, hb58, hR59, hV60, hL61, hk46, hge62, oH63, oF64, oG65, dHF66, dHG67, dFG68⟩
 refine ⟨_, rfl, ?_⟩
 have hsz69 := Keep.size hk46
 replace hb14_39 := hb14_39.k0 hk46
 replace hb41 := hb41.k0 hk46
 replace hK0 := hK0.tn hk46
 have hb47lt := hb58.lt
 replace hR59 : Rfr H52 w45 r48 gg49 [cfT prepare decision confirm] [] := hR59
 have own70 : ∀ q, H52 q → w41.heap.size ≤ q ∧ q ≠ b14 ∧ q ≠ b41 ∧ q ≠ b47 := fun q hq => by have h1 := oH63 q hq; omega
 have lt71 := Rfr.lt hR59
 have own72 : ∀ q, F53 q → w41.heap.size ≤ q ∧ q ≠ b14 ∧ q ≠ b41 ∧ q ≠ b47 := fun q hq => by have h1 := oF64 q hq; omega
 have lt73 := VotT.lt hV60
 have own74 : ∀ q, G54 q → w41.heap.size ≤ q ∧ q ≠ b14 ∧ q ≠ b41 ∧ q ≠ b47 := fun q hq => by have h1 := oG65 q hq; omega
 have lt75 := Led.lt hL61
 replace hR59 : Rfr H52 w45 r48 gg49 [cfT prepare decision confirm] rwQ0.rs := hR59
 replace hV60 : VotT F53 w45 v50 rwQ0.s := hV60
 replace hL61 : Led G54 w45 l51 rwQ0.xs rwQ0.cs := hL61
 refine On 4 [0, 1, 2, 3, 4, 12] ?_
 refine Oe ?_
 refine V_seq ?_
 refine Vs [(0, nt prepare), (1, nt decision), (2, nt confirm), (3, nt ayes), (4, nt nays), (12, pt b47), (74, .bool false)] ?_
 refine V_false rfl ?_
 refine V_skip ?_
 refine X_then ?_
 refine V_seq ?_
 refine V_draws (acts [13]) none_ [[0, 1, 2, 3, 4, 5, 6, 7, 8, 9, 10, 11, 12, 13]] (by kernel_rfl) (by repeat first | exact (by first | exact sure_body (by rintro _ _ ⟨_, _, h, _⟩; exact ⟨_, h⟩) | exact sure_body (by rintro _ _ ⟨_, _, _, _, _, _, _, _, _, _, _, h, _⟩; exact ⟨_, h⟩) | exact sure_body (by rintro _ _ ⟨h, _⟩; exact ⟨_, h⟩)) | refine sure_then ?_ | refine sure_block ?_ | refine sure_join ?_) (by kernel_rfl) ?_
 intro w77 hk76 he78 L hL79
 have hsz80 := Keep.size hk76
 replace hb14_39 := hb14_39.k0 hk76
 replace hb41 := hb41.k0 hk76
 replace hb58 := hb58.k0 hk76
 replace hK0 := hK0.tn hk76
 replace hR59 := hR59.keep hk76 nk
 replace hV60 := hV60.keep hk76 nk
 replace hL61 := hL61.keep hk76 nk
 have qhb14_39 := hb14_39
 have qhb41 := hb41
 have qhb58 := hb58
 have K81 : Keep none_ w77 w77 := Keep.refl _ _
 obtain rfl := List.mem_singleton.1 hL79
 refine Gn [3, 4, 5, 6, 7, 8, 9, 10, 11, 12, 13] [0, 1, 2, 3, 4, 12, 77] ?_
 refine Gc0 34 (.tmp 77) 2 (pt r48) (some 78) qhb58 rfl ?_
 refine Gn [7, 8, 9, 10, 11, 12, 13] [0, 1, 2, 3, 4, 12, 78, 81] ?_
 refine Gc0 32 (.tmp 81) 0 (pt l51) (some 82) qhb58 rfl ?_
 refine Gn [11, 12, 13] [0, 1, 2, 3, 4, 12, 78, 82, 85] ?_
 refine Gc0 33 (.tmp 85) 1 (pt v50) (some 86) qhb58 rfl ?_
 refine Gs [13] [(0, nt prepare), (1, nt decision), (2, nt confirm), (3, nt ayes), (4, nt nays), (12, pt b47), (78, pt r48), (82, pt l51), (86, pt v50), (87, .agg (hshc z0).toArray)] ?_
 refine GI_final 13 (by kernel_rfl) (by kernel_rfl) ?_
 refine Ok (kl 17 #[(.tmp 78), (.tmp 82), (.tmp 86), (.const (nt 1)), (.const (nt 0)), (.tmp 87), (.const (nt 0)), (.const (nt 0))] #[34, 32, 33, 3, 3, 42, 3, 3]) 17 #[pt r48, pt l51, pt v50, nt 1, nt 0, .agg (hshc z0).toArray, nt 0, nt 0] (some 88) (submit_spec H52 r48 gg49 [cfT prepare decision confirm] rwQ0.rs F53 v50 rwQ0.s G54 l51 rwQ0.xs rwQ0.cs 1 0 z0 0 0 _ hR59 hV60 hL61 dHF66 dHG67 dFG68) ?_
 rintro _ w84 ⟨rfl, ⟨F86, F89, F92, ho87, ho90, ho93, hfr88, hfr91, hfr94, hdis95, hdis96, hdis97⟩, hk85⟩
 refine ⟨_, rfl, ?_⟩
 have hsz98 := Keep.size hk85
 replace hb14_39 := hb14_39.keep hk85 (fun hs => by rcases hs with hs | hs | hs; (have u9 : _ = gg49 := hs; have u0 := own70 _ (Rfr.atg hR59); have u1 := lt71 _ (Rfr.atg hR59); omega); (have u0 := own72 _ hs; have u1 := lt73 _ hs; omega); (have u0 := own74 _ hs; have u1 := lt75 _ hs; omega))
 replace hb41 := hb41.keep hk85 (fun hs => by rcases hs with hs | hs | hs; (have u9 : _ = gg49 := hs; have u0 := own70 _ (Rfr.atg hR59); have u1 := lt71 _ (Rfr.atg hR59); omega); (have u0 := own72 _ hs; have u1 := lt73 _ hs; omega); (have u0 := own74 _ hs; have u1 := lt75 _ hs; omega))
 replace hb58 := hb58.keep hk85 (fun hs => by rcases hs with hs | hs | hs; (have u9 : _ = gg49 := hs; have u0 := own70 _ (Rfr.atg hR59); have u1 := lt71 _ (Rfr.atg hR59); omega); (have u0 := own72 _ hs; have u1 := lt73 _ hs; omega); (have u0 := own74 _ hs; have u1 := lt75 _ hs; omega))
 replace hK0 := Keep.fresh hK0 hk85 (by intro i hi hs; first | exact hs | (rcases hs with hs | hs | hs; (have u9 : _ = gg49 := hs; have u0 := own70 _ (Rfr.atg hR59); have u1 := lt71 _ (Rfr.atg hR59); omega); (have u0 := own72 i hs; have u1 := lt73 i hs; omega); (have u0 := own74 i hs; have u1 := lt75 i hs; omega)))
 have own100 : ∀ q, F86 q → w41.heap.size ≤ q ∧ q ≠ b14 ∧ q ≠ b41 ∧ q ≠ b47 := fun q hq => by rcases hfr88 q hq with h | h; (have h1 := own70 q h; have h2 := lt71 q h; omega); omega
 have lt99 := Rfr.lt ho87
 have own102 : ∀ q, F89 q → w41.heap.size ≤ q ∧ q ≠ b14 ∧ q ≠ b41 ∧ q ≠ b47 := fun q hq => by rcases hfr91 q hq with h | h; (have h1 := own72 q h; have h2 := lt73 q h; omega); omega
 have lt101 := VotT.lt ho90
 have own104 : ∀ q, F92 q → w41.heap.size ≤ q ∧ q ≠ b14 ∧ q ≠ b41 ∧ q ≠ b47 := fun q hq => by rcases hfr94 q hq with h | h; (have h1 := own74 q h; have h2 := lt75 q h; omega); omega
 have lt103 := Led.lt ho93
 replace ho87 : Rfr F86 w84 r48 gg49 [cfT prepare decision confirm] (rwSub [cfT prepare decision confirm] rwQ0 1 0 0 z0 0).rs := ho87
 replace ho90 : VotT F89 w84 v50 ((rwSub [cfT prepare decision confirm] rwQ0 1 0 0 z0 0).s) := ho90
 replace ho93 : Led F92 w84 l51 (rwSub [cfT prepare decision confirm] rwQ0 1 0 0 z0 0).xs (rwSub [cfT prepare decision confirm] rwQ0 1 0 0 z0 0).cs := ho93
 refine Oe ?_
 refine V_seq ?_
 refine V_draws (acts [8]) none_ [[0, 1, 2, 3, 4, 5, 6, 7, 8]] (by kernel_rfl) (by repeat first | exact (by first | exact sure_body (by rintro _ _ ⟨_, _, h, _⟩; exact ⟨_, h⟩) | exact sure_body (by rintro _ _ ⟨_, _, _, _, _, _, _, _, _, _, _, h, _⟩; exact ⟨_, h⟩) | exact sure_body (by rintro _ _ ⟨h, _⟩; exact ⟨_, h⟩)) | refine sure_then ?_ | refine sure_block ?_ | refine sure_join ?_) (by kernel_rfl) ?_
 intro w106 hk105 he107 L hL108
 have hsz109 := Keep.size hk105
 replace hb14_39 := hb14_39.k0 hk105
 replace hb41 := hb41.k0 hk105
 replace hb58 := hb58.k0 hk105
 replace hK0 := hK0.tn hk105
 replace ho87 := ho87.keep hk105 nk
 replace ho90 := ho90.keep hk105 nk
 replace ho93 := ho93.keep hk105 nk
 have qhb14_39 := hb14_39
 have qhb41 := hb41
 have qhb58 := hb58
 have K110 : Keep none_ w106 w106 := Keep.refl _ _
 obtain rfl := List.mem_singleton.1 hL108
 refine Gn [3, 4, 5, 6, 7, 8] [0, 1, 2, 3, 4, 12, 91] ?_
 refine Gc0 34 (.tmp 91) 2 (pt r48) (some 92) qhb58 rfl ?_
 refine Gs [7, 8] [(0, nt prepare), (1, nt decision), (2, nt confirm), (3, nt ayes), (4, nt nays), (12, pt b47), (92, pt r48), (95, pt b47)] ?_
 refine Gc0 32 (.tmp 95) 0 (pt l51) (some 96) qhb58 rfl ?_
 refine GI_final 8 (by kernel_rfl) (by kernel_rfl) ?_
 refine Ok (kl 21 #[(.tmp 92), (.tmp 96), (.const (nt 2)), (.const (nt 0))] #[34, 32, 3, 3]) 21 #[pt r48, pt l51, nt 2, nt 0] (some 97) (deposit_spec F86 r48 gg49 [cfT prepare decision confirm] (rwSub [cfT prepare decision confirm] rwQ0 1 0 0 z0 0).rs F92 l51 (rwSub [cfT prepare decision confirm] rwQ0 1 0 0 z0 0).xs (rwSub [cfT prepare decision confirm] rwQ0 1 0 0 z0 0).cs 2 0 _ ho87 ho93 hdis96) ?_
 rintro _ w113 ⟨rfl, ⟨F115, F118, ho116, ho119, hfr117, hfr120, hdis121⟩, hk114⟩
 refine ⟨_, rfl, ?_⟩
 have hsz122 := Keep.size hk114
 replace hb14_39 := hb14_39.keep hk114 (fun hs => by rcases hs with hs | hs; (have u9 : _ = gg49 := hs; have u0 := own100 _ (Rfr.atg ho87); have u1 := lt99 _ (Rfr.atg ho87); omega); (have u0 := own104 _ hs; have u1 := lt103 _ hs; omega))
 replace hb41 := hb41.keep hk114 (fun hs => by rcases hs with hs | hs; (have u9 : _ = gg49 := hs; have u0 := own100 _ (Rfr.atg ho87); have u1 := lt99 _ (Rfr.atg ho87); omega); (have u0 := own104 _ hs; have u1 := lt103 _ hs; omega))
 replace hb58 := hb58.keep hk114 (fun hs => by rcases hs with hs | hs; (have u9 : _ = gg49 := hs; have u0 := own100 _ (Rfr.atg ho87); have u1 := lt99 _ (Rfr.atg ho87); omega); (have u0 := own104 _ hs; have u1 := lt103 _ hs; omega))
 replace hK0 := Keep.fresh hK0 hk114 (by intro i hi hs; first | exact hs | (rcases hs with hs | hs; (have u9 : _ = gg49 := hs; have u0 := own100 _ (Rfr.atg ho87); have u1 := lt99 _ (Rfr.atg ho87); omega); (have u0 := own104 i hs; have u1 := lt103 i hs; omega)))
 replace ho90 := ho90.keep hk114 (fun q hq hs => by rcases hs with hs | hs; exact (fun q h1 h2 => hdis95 q h2 h1) q hq (by rw [show q = gg49 from hs]; exact (Rfr.atg ho87)); exact hdis97 q hq hs)
 have own124 : ∀ q, F115 q → w41.heap.size ≤ q ∧ q ≠ b14 ∧ q ≠ b41 ∧ q ≠ b47 := fun q hq => by rcases hfr117 q hq with h | h; (have h1 := own100 q h; have h2 := lt99 q h; omega); omega
 have lt123 := Rfr.lt ho116
 have dis125 : ∀ q, F115 q → ¬ F89 q := fun q h1 h2 => by rcases hfr117 q h1 with h | h; exact hdis95 q h h2; (have h4 := lt101 q h2; omega)
 have own127 : ∀ q, F118 q → w41.heap.size ≤ q ∧ q ≠ b14 ∧ q ≠ b41 ∧ q ≠ b47 := fun q hq => by rcases hfr120 q hq with h | h; (have h1 := own104 q h; have h2 := lt103 q h; omega); omega
 have lt126 := Led.lt ho119
 have dis128 : ∀ q, F118 q → ¬ F89 q := fun q h1 h2 => by rcases hfr120 q h1 with h | h; exact (fun q h1 h2 => hdis97 q h2 h1) q h h2; (have h4 := lt101 q h2; omega)
 replace ho116 : Rfr F115 w113 r48 gg49 [cfT prepare decision confirm] (cfQ0 prepare decision confirm).rs := ho116
 replace ho90 : VotT F89 w113 v50 ((cfQ0 prepare decision confirm).s) := ho90
 replace ho119 : Led F118 w113 l51 (cfQ0 prepare decision confirm).xs (cfQ0 prepare decision confirm).cs := ho119
 refine Oe ?_
 refine V_seq ?_
 refine V_draws (acts [10]) none_ [[0, 1, 2, 3, 4, 5, 6, 7, 8, 9, 10, 11]] (by kernel_rfl) (by repeat first | exact (by first | exact sure_body (by rintro _ _ ⟨_, _, h, _⟩; exact ⟨_, h⟩) | exact sure_body (by rintro _ _ ⟨_, _, _, _, _, _, _, _, _, _, _, h, _⟩; exact ⟨_, h⟩) | exact sure_body (by rintro _ _ ⟨h, _⟩; exact ⟨_, h⟩)) | refine sure_then ?_ | refine sure_block ?_ | refine sure_join ?_) (by kernel_rfl) ?_
 intro w130 hk129 he131 L hL132
 have hsz133 := Keep.size hk129
 replace hb14_39 := hb14_39.k0 hk129
 replace hb41 := hb41.k0 hk129
 replace hb58 := hb58.k0 hk129
 replace hK0 := hK0.tn hk129
 replace ho90 := ho90.keep hk129 nk
 replace ho116 := ho116.keep hk129 nk
 replace ho119 := ho119.keep hk129 nk
 have qhb14_39 := hb14_39
 have qhb41 := hb41
 have qhb58 := hb58
 have K134 : Keep none_ w130 w130 := Keep.refl _ _
 obtain rfl := List.mem_singleton.1 hL132
 refine Gn [3, 4, 5, 6, 7, 8, 9, 10, 11] [0, 1, 2, 3, 4, 12, 100] ?_
 refine Gc0 33 (.tmp 100) 1 (pt v50) (some 101) qhb58 rfl ?_
 refine Gn [7, 8, 9, 10, 11] [0, 1, 2, 3, 4, 12, 101, 104] ?_
 refine Gc0 32 (.tmp 104) 0 (pt l51) (some 105) qhb58 rfl ?_
 refine Gn [10, 11] [0, 1, 2, 3, 4, 12, 101, 105, 107] ?_
 refine Gk0 (kl 31 #[(.tmp 101), (.tmp 105), (.const (nt 3)), (.const (nt 0)), (.tmp 107)] #[33, 32, 3, 3, 67]) 31 #[pt v50, pt l51, nt 3, nt 0, .agg (Vt.cells (Vt.mk 1 true 1 ayes 0 0)).toArray] (some 108) (vote_spec F89 F118 v50 l51 (cfQ0 prepare decision confirm).s (cfQ0 prepare decision confirm).xs (cfQ0 prepare decision confirm).cs 3 0 (Vt.mk 1 true 1 ayes 0 0) _ ho90 ho119 (fun q h1 h2 => dis128 q h2 h1) (by first | exact cf_l0 _ _ _ | exact cf_l1 (by omega))) ?_
 rintro _ w137 ⟨rfl, ⟨F139, F142, ho140, ho143, hfr141, hfr144, hdis145⟩, hk138⟩
 refine ⟨_, rfl, ?_⟩
 have hsz146 := Keep.size hk138
 replace hb14_39 := hb14_39.keep hk138 (fun hs => by rcases hs with hs | hs; (have u0 := own102 _ hs; have u1 := lt101 _ hs; omega); (have u0 := own127 _ hs; have u1 := lt126 _ hs; omega))
 replace hb41 := hb41.keep hk138 (fun hs => by rcases hs with hs | hs; (have u0 := own102 _ hs; have u1 := lt101 _ hs; omega); (have u0 := own127 _ hs; have u1 := lt126 _ hs; omega))
 replace hb58 := hb58.keep hk138 (fun hs => by rcases hs with hs | hs; (have u0 := own102 _ hs; have u1 := lt101 _ hs; omega); (have u0 := own127 _ hs; have u1 := lt126 _ hs; omega))
 replace hK0 := Keep.fresh hK0 hk138 (by intro i hi hs; first | exact hs | (rcases hs with hs | hs; (have u0 := own102 i hs; have u1 := lt101 i hs; omega); (have u0 := own127 i hs; have u1 := lt126 i hs; omega)))
 replace ho116 := ho116.keep hk138 (fun q hq hs => by rcases hs with hs | hs; exact dis125 q hq hs; exact hdis121 q hq hs)
 have own148 : ∀ q, F139 q → w41.heap.size ≤ q ∧ q ≠ b14 ∧ q ≠ b41 ∧ q ≠ b47 := fun q hq => by rcases hfr141 q hq with h | h; (have h1 := own102 q h; have h2 := lt101 q h; omega); omega
 have lt147 := VotT.lt ho140
 have dis149 : ∀ q, F139 q → ¬ F115 q := fun q h1 h2 => by rcases hfr141 q h1 with h | h; exact (fun q h1 h2 => dis125 q h2 h1) q h h2; (have h4 := lt123 q h2; omega)
 have own151 : ∀ q, F142 q → w41.heap.size ≤ q ∧ q ≠ b14 ∧ q ≠ b41 ∧ q ≠ b47 := fun q hq => by rcases hfr144 q hq with h | h; (have h1 := own127 q h; have h2 := lt126 q h; omega); omega
 have lt150 := Led.lt ho143
 have dis152 : ∀ q, F142 q → ¬ F115 q := fun q h1 h2 => by rcases hfr144 q h1 with h | h; exact (fun q h1 h2 => hdis121 q h2 h1) q h h2; (have h4 := lt123 q h2; omega)
 replace ho116 : Rfr F115 w137 r48 gg49 [cfT prepare decision confirm] (cfQ1 prepare decision confirm ayes).rs := ho116
 replace ho140 : VotT F139 w137 v50 ((cfQ1 prepare decision confirm ayes).s) := ho140
 replace ho143 : Led F142 w137 l51 (cfQ1 prepare decision confirm ayes).xs (cfQ1 prepare decision confirm ayes).cs := ho143
 refine Gp_ [(0, nt prepare), (1, nt decision), (2, nt confirm), (3, nt ayes), (4, nt nays), (12, pt b47), (108, nt (RW.votE (cfQ0 prepare decision confirm) 3 0 (Vt.mk 1 true 1 ayes 0 0)))] ?_
 refine GI_eq [(0, nt prepare), (1, nt decision), (2, nt confirm), (3, nt ayes), (4, nt nays), (12, pt b47), (108, nt 0)] (by rw [show RW.votE (cfQ0 prepare decision confirm) 3 0 (Vt.mk 1 true 1 ayes 0 0) = 0 from cf_e1 (by omega)]) ?_
 refine Gs [] [(0, nt prepare), (1, nt decision), (2, nt confirm), (3, nt ayes), (4, nt nays), (12, pt b47), (13, nt 0)] ?_
 refine GI_end ?_
 refine X_then ?_
 refine V_seq ?_
 refine V_draws (acts [10]) none_ [[0, 1, 2, 3, 4, 5, 6, 7, 8, 9, 10, 11]] (by kernel_rfl) (by repeat first | exact (by first | exact sure_body (by rintro _ _ ⟨_, _, h, _⟩; exact ⟨_, h⟩) | exact sure_body (by rintro _ _ ⟨_, _, _, _, _, _, _, _, _, _, _, h, _⟩; exact ⟨_, h⟩) | exact sure_body (by rintro _ _ ⟨h, _⟩; exact ⟨_, h⟩)) | refine sure_then ?_ | refine sure_block ?_ | refine sure_join ?_) (by kernel_rfl) ?_
 intro w154 hk153 he155 L hL156
 have hsz157 := Keep.size hk153
 replace hb14_39 := hb14_39.k0 hk153
 replace hb41 := hb41.k0 hk153
 replace hb58 := hb58.k0 hk153
 replace hK0 := hK0.tn hk153
 replace ho116 := ho116.keep hk153 nk
 replace ho140 := ho140.keep hk153 nk
 replace ho143 := ho143.keep hk153 nk
 have qhb14_39 := hb14_39
 have qhb41 := hb41
 have qhb58 := hb58
 have K158 : Keep none_ w154 w154 := Keep.refl _ _
 obtain rfl := List.mem_singleton.1 hL156
 refine Gn [3, 4, 5, 6, 7, 8, 9, 10, 11] [0, 1, 2, 3, 4, 12, 13, 111] ?_
 refine Gc0 33 (.tmp 111) 1 (pt v50) (some 112) qhb58 rfl ?_
 refine Gn [7, 8, 9, 10, 11] [0, 1, 2, 3, 4, 12, 13, 112, 115] ?_
 refine Gc0 32 (.tmp 115) 0 (pt l51) (some 116) qhb58 rfl ?_
 refine Gn [10, 11] [0, 1, 2, 3, 4, 12, 13, 112, 116, 118] ?_
 refine Gk0 (kl 31 #[(.tmp 112), (.tmp 116), (.const (nt 4)), (.const (nt 0)), (.tmp 118)] #[33, 32, 3, 3, 67]) 31 #[pt v50, pt l51, nt 4, nt 0, .agg (Vt.cells (Vt.mk 1 false 1 nays 0 0)).toArray] (some 119) (vote_spec F139 F142 v50 l51 (cfQ1 prepare decision confirm ayes).s (cfQ1 prepare decision confirm ayes).xs (cfQ1 prepare decision confirm ayes).cs 4 0 (Vt.mk 1 false 1 nays 0 0) _ ho140 ho143 hdis145 (by first | exact cf_l0 _ _ _ | exact cf_l1 (by omega))) ?_
 rintro _ w161 ⟨rfl, ⟨F163, F166, ho164, ho167, hfr165, hfr168, hdis169⟩, hk162⟩
 refine ⟨_, rfl, ?_⟩
 have hsz170 := Keep.size hk162
 replace hb14_39 := hb14_39.keep hk162 (fun hs => by rcases hs with hs | hs; (have u0 := own148 _ hs; have u1 := lt147 _ hs; omega); (have u0 := own151 _ hs; have u1 := lt150 _ hs; omega))
 replace hb41 := hb41.keep hk162 (fun hs => by rcases hs with hs | hs; (have u0 := own148 _ hs; have u1 := lt147 _ hs; omega); (have u0 := own151 _ hs; have u1 := lt150 _ hs; omega))
 replace hb58 := hb58.keep hk162 (fun hs => by rcases hs with hs | hs; (have u0 := own148 _ hs; have u1 := lt147 _ hs; omega); (have u0 := own151 _ hs; have u1 := lt150 _ hs; omega))
 replace hK0 := Keep.fresh hK0 hk162 (by intro i hi hs; first | exact hs | (rcases hs with hs | hs; (have u0 := own148 i hs; have u1 := lt147 i hs; omega); (have u0 := own151 i hs; have u1 := lt150 i hs; omega)))
 replace ho116 := ho116.keep hk162 (fun q hq hs => by rcases hs with hs | hs; exact (fun q h1 h2 => dis149 q h2 h1) q hq hs; exact (fun q h1 h2 => dis152 q h2 h1) q hq hs)
 have own172 : ∀ q, F163 q → w41.heap.size ≤ q ∧ q ≠ b14 ∧ q ≠ b41 ∧ q ≠ b47 := fun q hq => by rcases hfr165 q hq with h | h; (have h1 := own148 q h; have h2 := lt147 q h; omega); omega
 have lt171 := VotT.lt ho164
 have dis173 : ∀ q, F163 q → ¬ F115 q := fun q h1 h2 => by rcases hfr165 q h1 with h | h; exact dis149 q h h2; (have h4 := lt123 q h2; omega)
 have own175 : ∀ q, F166 q → w41.heap.size ≤ q ∧ q ≠ b14 ∧ q ≠ b41 ∧ q ≠ b47 := fun q hq => by rcases hfr168 q hq with h | h; (have h1 := own151 q h; have h2 := lt150 q h; omega); omega
 have lt174 := Led.lt ho167
 have dis176 : ∀ q, F166 q → ¬ F115 q := fun q h1 h2 => by rcases hfr168 q h1 with h | h; exact dis152 q h h2; (have h4 := lt123 q h2; omega)
 replace ho116 : Rfr F115 w161 r48 gg49 [cfT prepare decision confirm] (cfV prepare decision confirm ayes nays 0).rs := ho116
 replace ho164 : VotT F163 w161 v50 ((cfV prepare decision confirm ayes nays 0).s) := ho164
 replace ho167 : Led F166 w161 l51 (cfV prepare decision confirm ayes nays 0).xs (cfV prepare decision confirm ayes nays 0).cs := ho167
 refine Gp_ [(0, nt prepare), (1, nt decision), (2, nt confirm), (3, nt ayes), (4, nt nays), (12, pt b47), (13, nt 0), (119, nt (RW.votE (cfQ1 prepare decision confirm ayes) 4 0 (Vt.mk 1 false 1 nays 0 0)))] ?_
 refine GI_eq [(0, nt prepare), (1, nt decision), (2, nt confirm), (3, nt ayes), (4, nt nays), (12, pt b47), (13, nt 0), (119, nt 0)] (by rw [show RW.votE (cfQ1 prepare decision confirm ayes) 4 0 (Vt.mk 1 false 1 nays 0 0) = 0 from cf_e2 (by omega) (by omega)]) ?_
 refine Gn [] [0, 1, 2, 3, 4, 12, 13, 14] ?_
 refine GI_end ?_
 refine X_then ?_
 refine V_seq ?_
 refine Vs [(0, nt prepare), (1, nt decision), (2, nt confirm), (3, nt ayes), (4, nt nays), (12, pt b47), (123, .bool false)] ?_
 refine V_false rfl ?_
 refine V_skip ?_
 refine X_then ?_
 refine V_seqJ (fun wI e => ∃ ps : Bool, (ps = decide (cfP ayes nays)) ∧ w161 = wI ∧ e = [(0, nt prepare), (1, nt decision), (2, nt confirm), (12, pt b47), (15, .bool ps)]) ?_ ?_
 ·
  refine V_region ?_
  refine Os 4 [(0, nt prepare), (1, nt decision), (2, nt confirm), (3, nt ayes), (12, pt b47), (127, .bool (decide (ayes ≥ nays)))] ?_
  by_cases hg177 : ayes ≥ nays
  ·
   refine OI_eq [(0, nt prepare), (1, nt decision), (2, nt confirm), (3, nt ayes), (12, pt b47), (127, .bool true)] (by first | rw [decide_eq_true hg177] | simp [hg177] | rfl) ?_
   refine Os 8 [(0, nt prepare), (1, nt decision), (2, nt confirm), (12, pt b47), (15, .bool (decide (ayes ≥ 100)))] ?_
   refine OI_end rfl ?_
   exact X_join [(0, nt prepare), (1, nt decision), (2, nt confirm), (12, pt b47), (15, .bool (decide (ayes ≥ 100)))] rfl ⟨decide (ayes ≥ 100), (cfP_dec hg177), rfl, rfl⟩
  refine OI_eq [(0, nt prepare), (1, nt decision), (2, nt confirm), (3, nt ayes), (12, pt b47), (127, .bool false)] (by first | rw [decide_eq_false hg177] | simp [hg177] | rfl) ?_
  refine Os 8 [(0, nt prepare), (1, nt decision), (2, nt confirm), (12, pt b47), (15, .bool false)] ?_
  refine OI_end rfl ?_
  exact X_join [(0, nt prepare), (1, nt decision), (2, nt confirm), (12, pt b47), (15, .bool false)] rfl ⟨false, (decide_eq_false (cfP_no1 hg177)).symm, rfl, rfl⟩
 ·
  rintro _ _ ⟨ps, hps, rfl, rfl⟩
  refine V_seq ?_
  refine Vs [(0, nt prepare), (1, nt decision), (2, nt confirm), (12, pt b47), (15, .bool ps), (16, nt 1)] ?_
  refine V_block ?_
  refine V_pick [(0, nt prepare), (1, nt decision), (2, nt confirm), (12, pt b47), (15, .bool ps), (16, nt 1)] rfl ?_
  refine V_loop (fun k wI e => ∃ i : Nat, ∃ Hk : Nat → Prop, ∃ Fk : Nat → Prop, ∃ Gk : Nat → Prop, (k + i = 60) ∧ (Blk wI b47 [pt l51, pt v50, pt r48, .pointer xv55, .pointer yv56, .pointer zv57, nt 0] 39) ∧ (Rfr Hk wI r48 gg49 [cfT prepare decision confirm] (cfV prepare decision confirm ayes nays i).rs) ∧ (VotT Fk wI v50 (cfV prepare decision confirm ayes nays i).s) ∧ (Led Gk wI l51 (cfV prepare decision confirm ayes nays i).xs (cfV prepare decision confirm ayes nays i).cs) ∧ (∀ q, Hk q → w.heap.size ≤ q ∧ q ≠ b47) ∧ (∀ q, Fk q → w.heap.size ≤ q ∧ q ≠ b47) ∧ (∀ q, Gk q → w.heap.size ≤ q ∧ q ≠ b47) ∧ (∀ q, Hk q → ¬ Fk q) ∧ (∀ q, Hk q → ¬ Gk q) ∧ (∀ q, Fk q → ¬ Gk q) ∧ (Keep none_ w wI) ∧ e = [(0, nt prepare), (1, nt decision), (2, nt confirm), (12, pt b47), (15, .bool ps), (16, nt ((i + 1 : Nat) : Int))]) 60 ⟨0, F115, F163, F166, by omega, hb58, ho116, ho164, ho167, (fun q hq => by have h1 := own124 q hq; have h2 := lt123 q hq; omega), (fun q hq => by have h1 := own172 q hq; have h2 := lt171 q hq; omega), (fun q hq => by have h1 := own175 q hq; have h2 := lt174 q hq; omega), (fun q h1 h2 => dis173 q h2 h1), (fun q h1 h2 => dis176 q h2 h1), hdis169, hK0, rfl⟩ ?_
  rintro k181 w180 _ ⟨i, Hk, Fk, Gk, hki, hbk, hRk, hVk, hLk, hHko, hFko, hGko, dkHF, dkHG, dkFG, hK0, rfl⟩
  have hb47lt := hbk.lt
  have hzhK0 := Keep.size hK0
  have ltHk := Rfr.lt hRk
  have ltFk := VotT.lt hVk
  have ltGk := Led.lt hLk
  have hmx := cf_max (p := prepare) (by omega)
  refine V_seq ?_
  refine Vs [(0, nt prepare), (1, nt decision), (2, nt confirm), (12, pt b47), (15, .bool ps), (16, nt ((i + 1 : Nat) : Int)), (132, .bool (decide (((i + 1 : Nat) : Int) ≤ 60)))] ?_
  refine V_if (((i + 1 : Nat) : Int) ≤ 60) (by kernel_rfl) (fun hc183 => ?_) (fun hc183 => ?_)
  ·
   refine V_skip ?_
   refine X_then ?_
   refine V_seq ?_
   refine V_block ?_
   refine V_seq ?_
   refine V_draws (acts [13]) none_ [[0, 1, 2, 3, 4, 5, 6, 7, 8, 9, 10, 11, 12, 13, 14]] (by kernel_rfl) (by repeat first | exact (by first | exact sure_body (by rintro _ _ ⟨_, _, h, _⟩; exact ⟨_, h⟩) | exact sure_body (by rintro _ _ ⟨_, _, _, _, _, _, _, _, _, _, _, h, _⟩; exact ⟨_, h⟩) | exact sure_body (by rintro _ _ ⟨h, _⟩; exact ⟨_, h⟩)) | refine sure_then ?_ | refine sure_block ?_ | refine sure_join ?_) (by kernel_rfl) ?_
   intro w185 hk184 he186 L hL187
   have hsz188 := Keep.size hk184
   replace hbk := hbk.k0 hk184
   replace hRk := hRk.keep hk184 nk
   replace hVk := hVk.keep hk184 nk
   replace hLk := hLk.keep hk184 nk
   replace hK0 := hK0.tn hk184
   have qhbk := hbk
   have K189 : Keep none_ w185 w185 := Keep.refl _ _
   obtain rfl := List.mem_singleton.1 hL187
   refine Gn [3, 4, 5, 6, 7, 8, 9, 10, 11, 12, 13, 14] [0, 1, 2, 12, 15, 16, 137] ?_
   refine Gc0 34 (.tmp 137) 2 (pt r48) (some 138) qhbk rfl ?_
   refine Gn [7, 8, 9, 10, 11, 12, 13, 14] [0, 1, 2, 12, 15, 16, 138, 141] ?_
   refine Gc0 32 (.tmp 141) 0 (pt l51) (some 142) qhbk rfl ?_
   refine Gn [11, 12, 13, 14] [0, 1, 2, 12, 15, 16, 138, 142, 145] ?_
   refine Gc0 33 (.tmp 145) 1 (pt v50) (some 146) qhbk rfl ?_
   refine Gn [13, 14] [0, 1, 2, 12, 15, 16, 138, 142, 146, 147] ?_
   obtain ⟨hb1, hb2, hb3, hb4⟩ := cf_blk (p := prepare) (d := decision) (c := confirm) (a := ayes) (n := nays) (i := i) (by omega) (by omega) (by omega) (by omega) (by omega) (by omega)
   refine Gk0 (kl 22 #[(.tmp 138), (.tmp 142), (.tmp 146), (.tmp 147)] #[34, 32, 33, 3]) 22 #[pt r48, pt l51, pt v50, nt ((i + 1 : Nat) : Int)] (some 148) (service_spec Hk r48 gg49 [cfT prepare decision confirm] (cfV prepare decision confirm ayes nays i).rs Fk v50 (cfV prepare decision confirm ayes nays i).s Gk l51 (cfV prepare decision confirm ayes nays i).xs (cfV prepare decision confirm ayes nays i).cs ((i + 1 : Nat) : Int) _ hRk hVk hLk dkHF dkHG dkFG) ?_
   rintro _ w192 ⟨A194, cap194, rfl, hA194, ow194, ⟨F195, F198, ho196, ho199, hfr197, hfr200, hdis201, dA202, dA203⟩, hk193⟩
   refine ⟨_, rfl, ?_⟩
   have hsz204 := Keep.size hk193
   replace hbk := hbk.keep hk193 (fun hs => by rcases hs with hs | hs; (have u9 : _ = gg49 := hs; have u0 := hHko _ (Rfr.atg hRk); have u1 := ltHk _ (Rfr.atg hRk); omega); (have u0 := hFko _ hs; have u1 := ltFk _ hs; omega))
   replace hLk := hLk.keep hk193 (fun q hq hs => by rcases hs with hs | hs; exact (fun q h1 h2 => dkHG q h2 h1) q hq (by rw [show q = gg49 from hs]; exact (Rfr.atg hRk)); exact (fun q h1 h2 => dkFG q h2 h1) q hq hs)
   replace hK0 := Keep.fresh hK0 hk193 (by intro i hi hs; first | exact hs | (rcases hs with hs | hs; (have u9 : _ = gg49 := hs; have u0 := hHko _ (Rfr.atg hRk); have u1 := ltHk _ (Rfr.atg hRk); omega); (have u0 := hFko i hs; have u1 := ltFk i hs; omega)))
   have own206 : ∀ q, F195 q → w.heap.size ≤ q ∧ q ≠ b47 := fun q hq => by rcases hfr197 q hq with h | h; (have h1 := hHko q h; have h2 := ltHk q h; omega); omega
   have lt205 := Rfr.lt ho196
   have dis207 : ∀ q, F195 q → ¬ Gk q := fun q h1 h2 => by rcases hfr197 q h1 with h | h; exact dkHG q h h2; (have h4 := ltGk q h2; omega)
   have own209 : ∀ q, F198 q → w.heap.size ≤ q ∧ q ≠ b47 := fun q hq => by rcases hfr200 q hq with h | h; (have h1 := hFko q h; have h2 := ltFk q h; omega); omega
   have lt208 := VotT.lt ho199
   have dis210 : ∀ q, F198 q → ¬ Gk q := fun q h1 h2 => by rcases hfr200 q h1 with h | h; exact dkFG q h h2; (have h4 := ltGk q h2; omega)
   replace ho196 : Rfr F195 w192 r48 gg49 [cfT prepare decision confirm] (cfV prepare decision confirm ayes nays (i + 1)).rs := ho196
   replace ho199 : VotT F198 w192 v50 ((cfV prepare decision confirm ayes nays (i + 1)).s) := ho199
   replace hLk : Led Gk w192 l51 (cfV prepare decision confirm ayes nays (i + 1)).xs (cfV prepare decision confirm ayes nays (i + 1)).cs := hLk
   refine Gn [] [0, 1, 2, 12, 15, 16, 17] ?_
   refine GI_end ?_
   refine X_then ?_
   refine Vr ?_
   refine On 3 [0, 1, 2, 12, 15, 16, 17, 152] ?_
   refine Oc 34 (.tmp 152) 2 (pt r48) (some 153) hbk rfl ?_
   refine Ok (kl 23 #[(.tmp 153), (.const (nt 0))] #[34, 3]) 23 #[pt r48, nt 0] (some 154) (rget_spec F195 r48 gg49 [cfT prepare decision confirm] (cfV prepare decision confirm ayes nays (i + 1)).rs 0 _ ho196) ?_
   rintro _ w211 ⟨rfl, hk212⟩
   refine ⟨_, rfl, ?_⟩
   have hsz213 := Keep.size hk212
   replace hbk := hbk.k0 hk212
   replace hLk := hLk.keep hk212 nk
   replace hK0 := hK0.tn hk212
   replace ho196 := ho196.keep hk212 nk
   replace ho199 := ho199.keep hk212 nk
   refine On 8 [0, 1, 2, 12, 15, 16, 17, 155, 156] ?_
   refine OI_alloc 57 (.agg (Rfm.cells Rfm.zero).toArray) (Rfm.cells Rfm.zero) (some 18) (by kernel_rfl) (by kernel_rfl) (by kernel_rfl) ?_
   intro b214 w214 e214 hb214 k214 z214
   have hsz215 := Keep.size k214
   replace hbk := hbk.k0 k214
   replace hLk := hLk.keep k214 nk
   replace hK0 := hK0.tn k214
   replace ho196 := ho196.keep k214 nk
   replace ho199 := ho199.keep k214 nk
   have hb214lt := hb214.lt
   refine Otg 57 (.tmp 18) (.tmp 155) 0 (Rfm.cells (getA (cfV prepare decision confirm ayes nays (i + 1)).rs 0)) hb214 (Rfm.len _) (Rfm.one _) ?_
   intro w216 hb214_219 hk217 hz218
   replace hb214_219 : Blk w216 b214 (Rfm.cells (getA (cfV prepare decision confirm ayes nays (i + 1)).rs 0)) 57 := (Blk.eqL (Rfm.over _ _) hb214_219)
   have hsz220 := Keep.size hk217
   replace hbk := hbk.k1 hk217
   replace hLk := hLk.keep hk217 (fun q hq hs => by have hs : q = b214 := hs; have g0 := hGko q hq; have g1 := ltGk q hq; omega)
   replace hK0 := Keep.fr hK0 hk217
   replace ho196 := ho196.keep hk217 (fun q hq hs => by have hs : q = b214 := hs; have g0 := own206 q hq; have g1 := lt205 q hq; omega)
   replace ho199 := ho199.keep hk217 (fun q hq hs => by have hs : q = b214 := hs; have g0 := own209 q hq; have g1 := lt208 q hq; omega)
   refine On 11 [0, 1, 2, 12, 15, 16, 17, 18, 19] ?_
   refine Oe ?_
   refine V_seq ?_
   refine Vs [(0, nt prepare), (1, nt decision), (2, nt confirm), (12, pt b47), (15, .bool ps), (16, nt ((i + 1 : Nat) : Int)), (17, .slice A194 ((rwEvs [cfT prepare decision confirm] (cfV prepare decision confirm ayes nays i) ((i + 1 : Nat) : Int)).length) cap194), (18, pt b214), (158, .bool (!((getR (cfV prepare decision confirm ayes nays (i + 1)).rs 0).isSome)))] ?_
   refine V_eq [(0, nt prepare), (1, nt decision), (2, nt confirm), (12, pt b47), (15, .bool ps), (16, nt ((i + 1 : Nat) : Int)), (17, .slice A194 ((rwEvs [cfT prepare decision confirm] (cfV prepare decision confirm ayes nays i) ((i + 1 : Nat) : Int)).length) cap194), (18, pt b214), (158, .bool false)] (by rw [show ((getR (cfV prepare decision confirm ayes nays (i + 1)).rs 0).isSome) = true from hb2]; rfl) ?_
   refine V_false rfl ?_
   refine V_skip ?_
   refine X_then ?_
   refine Vr ?_
   refine On 3 [0, 1, 2, 12, 15, 16, 17, 18, 20] ?_
   refine Oer ?_
   have hw222 : IntKind.i64.wrap ((imax prepare 1) + decision) = (imax prepare 1) + decision := (wrap64_id (by omega) (by omega)).trans (by omega)
   refine Os 3 [(0, nt prepare), (1, nt decision), (2, nt confirm), (12, pt b47), (15, .bool ps), (16, nt ((i + 1 : Nat) : Int)), (17, .slice A194 ((rwEvs [cfT prepare decision confirm] (cfV prepare decision confirm ayes nays i) ((i + 1 : Nat) : Int)).length) cap194), (18, pt b214), (20, nt (imax prepare 1)), (163, nt (IntKind.i64.wrap ((imax prepare 1) + decision)))] ?_
   refine Oq (u := nt (IntKind.i64.wrap ((imax prepare 1) + decision))) (v := nt ((imax prepare 1) + decision)) 163 (by rw [hw222]) ?_
   refine Ose [(0, nt prepare), (1, nt decision), (2, nt confirm), (12, pt b47), (15, .bool ps), (16, nt ((i + 1 : Nat) : Int)), (17, .slice A194 ((rwEvs [cfT prepare decision confirm] (cfV prepare decision confirm ayes nays i) ((i + 1 : Nat) : Int)).length) cap194), (18, pt b214), (20, nt (imax prepare 1)), (21, nt ((imax prepare 1) + decision)), (22, nt 3)] ?_
   refine V_seqJ (fun wI e => ∃ en : Int, ∃ sn : Int, (en = cfEn prepare decision confirm ayes nays) ∧ (sn = cfSt ayes nays) ∧ w216 = wI ∧ e = [(0, nt prepare), (1, nt decision), (2, nt confirm), (12, pt b47), (15, .bool ps), (16, nt ((i + 1 : Nat) : Int)), (17, .slice A194 ((rwEvs [cfT prepare decision confirm] (cfV prepare decision confirm ayes nays i) ((i + 1 : Nat) : Int)).length) cap194), (18, pt b214), (21, nt en), (22, nt sn)]) ?_ ?_
   ·
    refine Vs [(0, nt prepare), (1, nt decision), (2, nt confirm), (12, pt b47), (15, .bool ps), (16, nt ((i + 1 : Nat) : Int)), (17, .slice A194 ((rwEvs [cfT prepare decision confirm] (cfV prepare decision confirm ayes nays i) ((i + 1 : Nat) : Int)).length) cap194), (18, pt b214), (20, nt (imax prepare 1)), (21, nt ((imax prepare 1) + decision)), (22, nt 3), (164, .bool ps)] ?_
    refine V_ifb (ps) (by kernel_rfl) (fun hc223 => ?_) (fun hc223 => ?_)
    ·
     refine V_region ?_
     have hw224 : IntKind.i64.wrap ((imax prepare 1) + confirm) = (imax prepare 1) + confirm := (wrap64_id (by omega) (by omega)).trans (by omega)
     refine Os 3 [(0, nt prepare), (1, nt decision), (2, nt confirm), (12, pt b47), (15, .bool ps), (16, nt ((i + 1 : Nat) : Int)), (17, .slice A194 ((rwEvs [cfT prepare decision confirm] (cfV prepare decision confirm ayes nays i) ((i + 1 : Nat) : Int)).length) cap194), (18, pt b214), (167, nt (IntKind.i64.wrap ((imax prepare 1) + confirm)))] ?_
     refine Oq (u := nt (IntKind.i64.wrap ((imax prepare 1) + confirm))) (v := nt ((imax prepare 1) + confirm)) 167 (by rw [hw224]) ?_
     refine Os 5 [(0, nt prepare), (1, nt decision), (2, nt confirm), (12, pt b47), (15, .bool ps), (16, nt ((i + 1 : Nat) : Int)), (17, .slice A194 ((rwEvs [cfT prepare decision confirm] (cfV prepare decision confirm ayes nays i) ((i + 1 : Nat) : Int)).length) cap194), (18, pt b214), (21, nt ((imax prepare 1) + confirm)), (22, nt 2)] ?_
     refine OI_end rfl ?_
     exact X_join [(0, nt prepare), (1, nt decision), (2, nt confirm), (12, pt b47), (15, .bool ps), (16, nt ((i + 1 : Nat) : Int)), (17, .slice A194 ((rwEvs [cfT prepare decision confirm] (cfV prepare decision confirm ayes nays i) ((i + 1 : Nat) : Int)).length) cap194), (18, pt b214), (21, nt ((imax prepare 1) + confirm)), (22, nt 2)] rfl ⟨(imax prepare 1) + confirm, 2, (cfEn_yes (of_decide_eq_true (hps.symm.trans hc223))).symm, (if_pos (of_decide_eq_true (hps.symm.trans hc223))).symm, rfl, rfl⟩
    refine V_skip ?_
    exact X_join [(0, nt prepare), (1, nt decision), (2, nt confirm), (12, pt b47), (15, .bool ps), (16, nt ((i + 1 : Nat) : Int)), (17, .slice A194 ((rwEvs [cfT prepare decision confirm] (cfV prepare decision confirm ayes nays i) ((i + 1 : Nat) : Int)).length) cap194), (18, pt b214), (21, nt ((imax prepare 1) + decision)), (22, nt 3)] rfl ⟨(imax prepare 1) + decision, 3, (cfEn_no (of_decide_eq_false (hps.symm.trans hc223))).symm, (if_neg (of_decide_eq_false (hps.symm.trans hc223))).symm, rfl, rfl⟩
   ·
    rintro _ _ ⟨en, sn, hen, hsn, rfl, rfl⟩
    rw [← hen, ← hsn] at hb4
    rw [← hen] at hb1 hb3
    refine V_seq ?_
    refine Vr ?_
    refine Os 8 [(0, nt prepare), (1, nt decision), (2, nt confirm), (12, pt b47), (15, .bool ps), (16, nt ((i + 1 : Nat) : Int)), (18, pt b214), (21, nt en), (22, nt sn), (175, .bool (!((decide ((((rwEvs [cfT prepare decision confirm] (cfV prepare decision confirm ayes nays i) ((i + 1 : Nat) : Int)).length : Nat) : Int) = 1)) == (decide (((i + 1 : Nat) : Int) = en)))))] ?_
    refine Oq (u := .bool (!((decide ((((rwEvs [cfT prepare decision confirm] (cfV prepare decision confirm ayes nays i) ((i + 1 : Nat) : Int)).length : Nat) : Int) = 1)) == (decide (((i + 1 : Nat) : Int) = en))))) (v := .bool false) 175 (by rw [show (!((decide ((((rwEvs [cfT prepare decision confirm] (cfV prepare decision confirm ayes nays i) ((i + 1 : Nat) : Int)).length : Nat) : Int) = 1)) == (decide (((i + 1 : Nat) : Int) = en)))) = false from (bne_iff hb1)]) ?_
    refine On 9 [0, 1, 2, 12, 15, 16, 18, 21, 22, 175, 176] ?_
    refine Oc 3 (.tmp 176) 0 (nt ((getA (cfV prepare decision confirm ayes nays (i + 1)).rs 0).state)) (some 177) hb214_219 rfl ?_
    refine Ose [(0, nt prepare), (1, nt decision), (2, nt confirm), (12, pt b47), (15, .bool ps), (16, nt ((i + 1 : Nat) : Int)), (18, pt b214), (21, nt en), (22, nt sn), (176, pt b214), (177, nt ((getA (cfV prepare decision confirm ayes nays (i + 1)).rs 0).state)), (178, .bool (decide ((getA (cfV prepare decision confirm ayes nays (i + 1)).rs 0).state = 1))), (179, nt ((i + 1 : Nat) : Int)), (180, nt en), (181, .bool (decide (((i + 1 : Nat) : Int) < en))), (182, .bool (!((decide ((getA (cfV prepare decision confirm ayes nays (i + 1)).rs 0).state = 1)) == (decide (((i + 1 : Nat) : Int) < en))))), (183, .bool (!((decide ((getA (cfV prepare decision confirm ayes nays (i + 1)).rs 0).state = 1)) == (decide (((i + 1 : Nat) : Int) < en)))))] ?_
    refine V_eq [(0, nt prepare), (1, nt decision), (2, nt confirm), (12, pt b47), (15, .bool ps), (16, nt ((i + 1 : Nat) : Int)), (18, pt b214), (21, nt en), (22, nt sn), (176, pt b214), (177, nt ((getA (cfV prepare decision confirm ayes nays (i + 1)).rs 0).state)), (178, .bool (decide ((getA (cfV prepare decision confirm ayes nays (i + 1)).rs 0).state = 1))), (179, nt ((i + 1 : Nat) : Int)), (180, nt en), (181, .bool (decide (((i + 1 : Nat) : Int) < en))), (182, .bool (!((decide ((getA (cfV prepare decision confirm ayes nays (i + 1)).rs 0).state = 1)) == (decide (((i + 1 : Nat) : Int) < en))))), (183, .bool false)] (by rw [show (!((decide ((getA (cfV prepare decision confirm ayes nays (i + 1)).rs 0).state = 1)) == (decide (((i + 1 : Nat) : Int) < en)))) = false from (bne_iff hb3)]) ?_
    refine V_false rfl ?_
    refine V_skip ?_
    refine X_then ?_
    refine Vr ?_
    refine Os 4 [(0, nt prepare), (1, nt decision), (2, nt confirm), (12, pt b47), (15, .bool ps), (16, nt ((i + 1 : Nat) : Int)), (18, pt b214), (21, nt en), (22, nt sn), (176, pt b214), (177, nt ((getA (cfV prepare decision confirm ayes nays (i + 1)).rs 0).state)), (178, .bool (decide ((getA (cfV prepare decision confirm ayes nays (i + 1)).rs 0).state = 1))), (179, nt ((i + 1 : Nat) : Int)), (180, nt en), (181, .bool (decide (((i + 1 : Nat) : Int) < en))), (182, .bool (!((decide ((getA (cfV prepare decision confirm ayes nays (i + 1)).rs 0).state = 1)) == (decide (((i + 1 : Nat) : Int) < en))))), (187, .bool (decide (((i + 1 : Nat) : Int) ≥ en)))] ?_
    by_cases hg229 : ((i + 1 : Nat) : Int) ≥ en
    ·
     refine OI_eq [(0, nt prepare), (1, nt decision), (2, nt confirm), (12, pt b47), (15, .bool ps), (16, nt ((i + 1 : Nat) : Int)), (18, pt b214), (21, nt en), (22, nt sn), (176, pt b214), (177, nt ((getA (cfV prepare decision confirm ayes nays (i + 1)).rs 0).state)), (178, .bool (decide ((getA (cfV prepare decision confirm ayes nays (i + 1)).rs 0).state = 1))), (179, nt ((i + 1 : Nat) : Int)), (180, nt en), (181, .bool (decide (((i + 1 : Nat) : Int) < en))), (182, .bool (!((decide ((getA (cfV prepare decision confirm ayes nays (i + 1)).rs 0).state = 1)) == (decide (((i + 1 : Nat) : Int) < en))))), (187, .bool true)] (by first | rw [decide_eq_true hg229] | simp [hg229] | rfl) ?_
     refine On 5 [0, 1, 2, 12, 15, 16, 18, 21, 22, 176, 177, 178, 179, 180, 181, 182, 187, 188] ?_
     refine Oc 3 (.tmp 188) 0 (nt ((getA (cfV prepare decision confirm ayes nays (i + 1)).rs 0).state)) (some 189) hb214_219 rfl ?_
     refine Os 9 [(0, nt prepare), (1, nt decision), (2, nt confirm), (12, pt b47), (15, .bool ps), (16, nt ((i + 1 : Nat) : Int)), (18, pt b214), (21, nt en), (176, pt b214), (177, nt ((getA (cfV prepare decision confirm ayes nays (i + 1)).rs 0).state)), (178, .bool (decide ((getA (cfV prepare decision confirm ayes nays (i + 1)).rs 0).state = 1))), (179, nt ((i + 1 : Nat) : Int)), (180, nt en), (181, .bool (decide (((i + 1 : Nat) : Int) < en))), (182, .bool (!((decide ((getA (cfV prepare decision confirm ayes nays (i + 1)).rs 0).state = 1)) == (decide (((i + 1 : Nat) : Int) < en))))), (187, .bool true), (188, pt b214), (189, nt ((getA (cfV prepare decision confirm ayes nays (i + 1)).rs 0).state)), (190, nt sn), (191, .bool (!(decide ((getA (cfV prepare decision confirm ayes nays (i + 1)).rs 0).state = sn)))), (192, .bool (!(decide ((getA (cfV prepare decision confirm ayes nays (i + 1)).rs 0).state = sn))))] ?_
     refine Oq (u := .bool (!(decide ((getA (cfV prepare decision confirm ayes nays (i + 1)).rs 0).state = sn)))) (v := .bool false) 192 (by rw [decide_eq_true (show ((getA (cfV prepare decision confirm ayes nays (i + 1)).rs 0).state = sn) from (hb4 hg229).1)]; rfl) ?_
     refine On 10 [0, 1, 2, 12, 15, 16, 21, 176, 177, 178, 179, 180, 181, 182, 187, 188, 189, 190, 191, 192, 193] ?_
     refine Oc 3 (.tmp 193) 41 (nt ((getA (cfV prepare decision confirm ayes nays (i + 1)).rs 0).stop)) (some 194) hb214_219 rfl ?_
     refine Ose [(0, nt prepare), (1, nt decision), (2, nt confirm), (12, pt b47), (15, .bool ps), (16, nt ((i + 1 : Nat) : Int)), (176, pt b214), (177, nt ((getA (cfV prepare decision confirm ayes nays (i + 1)).rs 0).state)), (178, .bool (decide ((getA (cfV prepare decision confirm ayes nays (i + 1)).rs 0).state = 1))), (179, nt ((i + 1 : Nat) : Int)), (180, nt en), (181, .bool (decide (((i + 1 : Nat) : Int) < en))), (182, .bool (!((decide ((getA (cfV prepare decision confirm ayes nays (i + 1)).rs 0).state = 1)) == (decide (((i + 1 : Nat) : Int) < en))))), (188, pt b214), (189, nt ((getA (cfV prepare decision confirm ayes nays (i + 1)).rs 0).state)), (190, nt sn), (191, .bool (!(decide ((getA (cfV prepare decision confirm ayes nays (i + 1)).rs 0).state = sn)))), (192, .bool false), (193, po_ b214 41), (194, nt ((getA (cfV prepare decision confirm ayes nays (i + 1)).rs 0).stop)), (195, nt en), (196, .bool (!(decide ((getA (cfV prepare decision confirm ayes nays (i + 1)).rs 0).stop = en)))), (197, .bool (!(decide ((getA (cfV prepare decision confirm ayes nays (i + 1)).rs 0).stop = en)))), (198, .bool (!(decide ((getA (cfV prepare decision confirm ayes nays (i + 1)).rs 0).stop = en))))] ?_
     refine V_eq [(0, nt prepare), (1, nt decision), (2, nt confirm), (12, pt b47), (15, .bool ps), (16, nt ((i + 1 : Nat) : Int)), (176, pt b214), (177, nt ((getA (cfV prepare decision confirm ayes nays (i + 1)).rs 0).state)), (178, .bool (decide ((getA (cfV prepare decision confirm ayes nays (i + 1)).rs 0).state = 1))), (179, nt ((i + 1 : Nat) : Int)), (180, nt en), (181, .bool (decide (((i + 1 : Nat) : Int) < en))), (182, .bool (!((decide ((getA (cfV prepare decision confirm ayes nays (i + 1)).rs 0).state = 1)) == (decide (((i + 1 : Nat) : Int) < en))))), (188, pt b214), (189, nt ((getA (cfV prepare decision confirm ayes nays (i + 1)).rs 0).state)), (190, nt sn), (191, .bool (!(decide ((getA (cfV prepare decision confirm ayes nays (i + 1)).rs 0).state = sn)))), (192, .bool false), (193, po_ b214 41), (194, nt ((getA (cfV prepare decision confirm ayes nays (i + 1)).rs 0).stop)), (195, nt en), (196, .bool (!(decide ((getA (cfV prepare decision confirm ayes nays (i + 1)).rs 0).stop = en)))), (197, .bool (!(decide ((getA (cfV prepare decision confirm ayes nays (i + 1)).rs 0).stop = en)))), (198, .bool false)] (by rw [decide_eq_true (show ((getA (cfV prepare decision confirm ayes nays (i + 1)).rs 0).stop = en) from (hb4 hg229).2)]; rfl) ?_
     refine V_false rfl ?_
     refine V_skip ?_
     refine X_block ?_
     refine X_then ?_
     refine V_region ?_
     have hw232 : IntKind.i64.wrap (((i + 1 : Nat) : Int) + 1) = ((i + 1 + 1 : Nat) : Int) := (wrap64_id (by omega) (by omega)).trans (by omega)
     refine Os 2 [(0, nt prepare), (1, nt decision), (2, nt confirm), (12, pt b47), (15, .bool ps), (134, nt (IntKind.i64.wrap (((i + 1 : Nat) : Int) + 1))), (176, pt b214), (177, nt ((getA (cfV prepare decision confirm ayes nays (i + 1)).rs 0).state)), (178, .bool (decide ((getA (cfV prepare decision confirm ayes nays (i + 1)).rs 0).state = 1))), (179, nt ((i + 1 : Nat) : Int)), (180, nt en), (181, .bool (decide (((i + 1 : Nat) : Int) < en))), (182, .bool (!((decide ((getA (cfV prepare decision confirm ayes nays (i + 1)).rs 0).state = 1)) == (decide (((i + 1 : Nat) : Int) < en))))), (188, pt b214), (189, nt ((getA (cfV prepare decision confirm ayes nays (i + 1)).rs 0).state)), (190, nt sn), (191, .bool (!(decide ((getA (cfV prepare decision confirm ayes nays (i + 1)).rs 0).state = sn)))), (192, .bool false), (193, po_ b214 41), (194, nt ((getA (cfV prepare decision confirm ayes nays (i + 1)).rs 0).stop)), (195, nt en), (196, .bool (!(decide ((getA (cfV prepare decision confirm ayes nays (i + 1)).rs 0).stop = en)))), (197, .bool (!(decide ((getA (cfV prepare decision confirm ayes nays (i + 1)).rs 0).stop = en))))] ?_
     refine Oq (u := nt (IntKind.i64.wrap (((i + 1 : Nat) : Int) + 1))) (v := nt ((i + 1 + 1 : Nat) : Int)) 134 (by rw [hw232]) ?_
     refine Os 3 [(0, nt prepare), (1, nt decision), (2, nt confirm), (12, pt b47), (15, .bool ps), (16, nt ((i + 1 + 1 : Nat) : Int)), (176, pt b214), (177, nt ((getA (cfV prepare decision confirm ayes nays (i + 1)).rs 0).state)), (178, .bool (decide ((getA (cfV prepare decision confirm ayes nays (i + 1)).rs 0).state = 1))), (179, nt ((i + 1 : Nat) : Int)), (180, nt en), (181, .bool (decide (((i + 1 : Nat) : Int) < en))), (182, .bool (!((decide ((getA (cfV prepare decision confirm ayes nays (i + 1)).rs 0).state = 1)) == (decide (((i + 1 : Nat) : Int) < en))))), (188, pt b214), (189, nt ((getA (cfV prepare decision confirm ayes nays (i + 1)).rs 0).state)), (190, nt sn), (191, .bool (!(decide ((getA (cfV prepare decision confirm ayes nays (i + 1)).rs 0).state = sn)))), (192, .bool false), (193, po_ b214 41), (194, nt ((getA (cfV prepare decision confirm ayes nays (i + 1)).rs 0).stop)), (195, nt en), (196, .bool (!(decide ((getA (cfV prepare decision confirm ayes nays (i + 1)).rs 0).stop = en)))), (197, .bool (!(decide ((getA (cfV prepare decision confirm ayes nays (i + 1)).rs 0).stop = en))))] ?_
     refine OI_end rfl ?_
     exact V_again (k181 - 1) (by omega) [(0, nt prepare), (1, nt decision), (2, nt confirm), (12, pt b47), (15, .bool ps), (16, nt ((i + 1 + 1 : Nat) : Int))] rfl ⟨i + 1, F195, F198, Gk, by omega, hbk, ho196, ho199, hLk, (fun q hq => by have h1 := own206 q hq; have h2 := lt205 q hq; omega), (fun q hq => by have h1 := own209 q hq; have h2 := lt208 q hq; omega), (fun q hq => by have h1 := hGko q hq; have h2 := ltGk q hq; omega), hdis201, dis207, dis210, hK0, rfl⟩
    refine OI_eq [(0, nt prepare), (1, nt decision), (2, nt confirm), (12, pt b47), (15, .bool ps), (16, nt ((i + 1 : Nat) : Int)), (18, pt b214), (21, nt en), (22, nt sn), (176, pt b214), (177, nt ((getA (cfV prepare decision confirm ayes nays (i + 1)).rs 0).state)), (178, .bool (decide ((getA (cfV prepare decision confirm ayes nays (i + 1)).rs 0).state = 1))), (179, nt ((i + 1 : Nat) : Int)), (180, nt en), (181, .bool (decide (((i + 1 : Nat) : Int) < en))), (182, .bool (!((decide ((getA (cfV prepare decision confirm ayes nays (i + 1)).rs 0).state = 1)) == (decide (((i + 1 : Nat) : Int) < en))))), (187, .bool false)] (by first | rw [decide_eq_false hg229] | simp [hg229] | rfl) ?_
    refine Ose [(0, nt prepare), (1, nt decision), (2, nt confirm), (12, pt b47), (15, .bool ps), (16, nt ((i + 1 : Nat) : Int)), (176, pt b214), (177, nt ((getA (cfV prepare decision confirm ayes nays (i + 1)).rs 0).state)), (178, .bool (decide ((getA (cfV prepare decision confirm ayes nays (i + 1)).rs 0).state = 1))), (179, nt ((i + 1 : Nat) : Int)), (180, nt en), (181, .bool (decide (((i + 1 : Nat) : Int) < en))), (182, .bool (!((decide ((getA (cfV prepare decision confirm ayes nays (i + 1)).rs 0).state = 1)) == (decide (((i + 1 : Nat) : Int) < en))))), (188, undef), (189, undef), (190, undef), (191, undef), (192, undef), (193, undef), (194, undef), (195, undef), (196, undef), (197, undef), (198, .bool false)] ?_
    refine V_false rfl ?_
    refine V_skip ?_
    refine X_block ?_
    refine X_then ?_
    refine V_region ?_
    have hw233 : IntKind.i64.wrap (((i + 1 : Nat) : Int) + 1) = ((i + 1 + 1 : Nat) : Int) := (wrap64_id (by omega) (by omega)).trans (by omega)
    refine Os 2 [(0, nt prepare), (1, nt decision), (2, nt confirm), (12, pt b47), (15, .bool ps), (134, nt (IntKind.i64.wrap (((i + 1 : Nat) : Int) + 1))), (176, pt b214), (177, nt ((getA (cfV prepare decision confirm ayes nays (i + 1)).rs 0).state)), (178, .bool (decide ((getA (cfV prepare decision confirm ayes nays (i + 1)).rs 0).state = 1))), (179, nt ((i + 1 : Nat) : Int)), (180, nt en), (181, .bool (decide (((i + 1 : Nat) : Int) < en))), (182, .bool (!((decide ((getA (cfV prepare decision confirm ayes nays (i + 1)).rs 0).state = 1)) == (decide (((i + 1 : Nat) : Int) < en))))), (188, undef), (189, undef), (190, undef), (191, undef), (192, undef), (193, undef), (194, undef), (195, undef), (196, undef), (197, undef)] ?_
    refine Oq (u := nt (IntKind.i64.wrap (((i + 1 : Nat) : Int) + 1))) (v := nt ((i + 1 + 1 : Nat) : Int)) 134 (by rw [hw233]) ?_
    refine Os 3 [(0, nt prepare), (1, nt decision), (2, nt confirm), (12, pt b47), (15, .bool ps), (16, nt ((i + 1 + 1 : Nat) : Int)), (176, pt b214), (177, nt ((getA (cfV prepare decision confirm ayes nays (i + 1)).rs 0).state)), (178, .bool (decide ((getA (cfV prepare decision confirm ayes nays (i + 1)).rs 0).state = 1))), (179, nt ((i + 1 : Nat) : Int)), (180, nt en), (181, .bool (decide (((i + 1 : Nat) : Int) < en))), (182, .bool (!((decide ((getA (cfV prepare decision confirm ayes nays (i + 1)).rs 0).state = 1)) == (decide (((i + 1 : Nat) : Int) < en))))), (188, undef), (189, undef), (190, undef), (191, undef), (192, undef), (193, undef), (194, undef), (195, undef), (196, undef), (197, undef)] ?_
    refine OI_end rfl ?_
    exact V_again (k181 - 1) (by omega) [(0, nt prepare), (1, nt decision), (2, nt confirm), (12, pt b47), (15, .bool ps), (16, nt ((i + 1 + 1 : Nat) : Int))] rfl ⟨i + 1, F195, F198, Gk, by omega, hbk, ho196, ho199, hLk, (fun q hq => by have h1 := own206 q hq; have h2 := lt205 q hq; omega), (fun q hq => by have h1 := own209 q hq; have h2 := lt208 q hq; omega), (fun q hq => by have h1 := hGko q hq; have h2 := ltGk q hq; omega), hdis201, dis207, dis210, hK0, rfl⟩
  refine V_exit ?_
  refine X_exit_then ?_
  refine X_exit_then ?_
  refine X_exit_here ?_
  refine X_then ?_
  refine Vr ?_
  refine Ok (kl 18 #[] #[]) 18 #[] (some 199) (known_spec _) ?_
  rintro _ w234 ⟨rfl, hk235⟩
  refine ⟨_, rfl, ?_⟩
  have hsz236 := Keep.size hk235
  replace hRk := hRk.keep hk235 nk
  replace hVk := hVk.keep hk235 nk
  replace hLk := hLk.keep hk235 nk
  replace hK0 := hK0.tn hk235
  refine Ose [(10, .bool true)] ?_
  refine V_ret ?_
  exact X_return (.bool true) rfl ⟨rfl, hK0⟩
end Go.Al
