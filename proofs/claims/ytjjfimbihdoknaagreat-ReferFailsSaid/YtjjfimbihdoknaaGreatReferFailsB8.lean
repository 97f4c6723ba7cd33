/-
  Put together out of 4 texts: Walks of the laws of refer: states; one that nobody backs. The laws of refer: one that ceases to pass. Package voting: Unvote. Walks of the laws of refer: one that ceases to pass.
-/
import Derived.Test.YtjjfimbihdoknaaGreatReferFailsB7
set_option maxRecDepth 10000
namespace Go.Al
open Go Go.RowKit Go.Proofs
structure RW where
  xs : List Acc
  cs : List Ci
  s : VS
  rs : List Rfm
def rwQ0 : RW := ⟨rfX, [], VS.zero, []⟩
def rwSub (ts : List Trk) (q : RW) (who of after : Int) (sum : Nat → Int) (now : Int) : RW := ⟨subX q.xs q.cs q.s ts q.rs who of after, q.cs, subS q.xs q.cs q.s ts q.rs who of after, subR q.xs q.cs q.s ts q.rs who of after sum now⟩
def rwDep (ts : List Trk) (q : RW) (who ref : Int) : RW := ⟨depX q.xs q.cs ts q.rs who ref, q.cs, q.s, depR q.xs q.cs ts q.rs who ref⟩
def rwSvc (ts : List Trk) (q : RW) (now : Int) : RW := ⟨q.xs, q.cs, (svcQ ts q.xs q.s q.rs now).s, (svcQ ts q.xs q.s q.rs now).rs⟩
def rwEvs (ts : List Trk) (q : RW) (now : Int) : List Evt := (svcQ ts q.xs q.s q.rs now).out
def rwVot (q : RW) (who ref : Int) (x : Vt) : RW := ⟨q.xs, voteC q.xs q.cs q.s who ref x, voteS q.xs q.s who ref x, q.rs⟩
def rwUnv (q : RW) (who ref now : Int) : RW := ⟨q.xs, q.cs, unvS q.s who ref now, q.rs⟩
def RW.subE (ts : List Trk) (q : RW) (who of after : Int) : Int := _root_.Go.Al.subE q.xs q.cs q.s ts q.rs who of after
def RW.votE (q : RW) (who ref : Int) (x : Vt) : Int := voteE q.xs q.s who ref x
theorem SlT.ofE {α : Type} {w : World} {sz cap : Nat} {f : α → List Value} {A : Option Addr} {xs ys : List α} (h : SlT w sz f A cap xs) (e : xs = ys) : SlT w sz f A cap ys := e ▸ h
def plainT : Trk := ⟨1, 20, 2, 10, 3, 1, ⟨1, 500000000, 500000000, 1, 0⟩, ⟨1, 100000000, 100000000, 1, 0⟩, 50, 2⟩
theorem plain_ok : okTs [plainT] := ⟨by decide, by decide, by decide⟩
theorem plain_spec (w : World) : Calls Tryz.prog 16 #[] w (rk_ w (.agg plainT.cells.toArray)) := by
 have hK0 : Keep none_ w w := Keep.refl _ _
 have hzhK0 := Keep.size hK0
 refine enterM Tryz.func16 rfl [] 4 rfl rfl rfl ?_
 refine Vp [] <| Vr <| Al 27 (.agg (Trk.cells Trk.zero).toArray) (Trk.cells Trk.zero) ?_
 intro b1 w1 e1 hb1 k1 z1
 have hsz2 := Keep.size k1
 replace hK0 := hK0.tn k1
 have hb1lt := hb1.lt
 refine Oer <| Os 3 [(0, pt b1), (3, .agg (Trk.cells plainT).toArray)] <| Sg 0 (Trk.cells plainT) hb1 (Trk.len _) (Trk.one _) ?_
 intro w3 hb1_6 hk4 hz5
 replace hb1_6 : Blk w3 b1 (Trk.cells plainT) 27 := (Blk.eqL (Trk.over _ _) hb1_6)
 have hsz7 := Keep.size hk4
 replace hK0 := Keep.fr hK0 hk4
 refine Oe <| V_ret ?_
 exact leave0 (.agg (Trk.cells plainT).toArray) (.inl rfl) (res_agg1 (m := 18) rfl rfl (by kernel_rfl) hb1_6 rfl) ⟨rfl, hK0⟩
def kwQ1 : RW := rwSub [plainT] rwQ0 1 0 0 z0 0
def kwQ2 : RW := rwSvc [plainT] kwQ1 29
def kwQ3 : RW := rwSvc [plainT] kwQ2 30
theorem kw1 : RW.subE [plainT] rwQ0 1 0 0 = 0 := by kernel_rfl
theorem kw2 : rwEvs [plainT] kwQ1 29 = [] := by kernel_rfl
theorem kw3 : rwEvs [plainT] kwQ2 30 = [Evt.mk 1 0 4] := by kernel_rfl
set_option maxHeartbeats 1000000 in
theorem known_spec (w : World) : Calls Tryz.prog 18 #[] w (rk_ w (.bool true)) := by
 have hK0 : Keep none_ w w := Keep.refl _ _
 have hzhK0 := Keep.size hK0
 refine eV ?_
 refine Vr <| On 1 [] <| Oer <| Kk (plain_spec _) fun w1 hk2 _ => ?_
 replace hK0 := hK0.tn hk2
 refine OI_slit (E := 27) (zv := .agg #[nt 0, nt 0, nt 0, nt 0, nt 0, nt 0, nt 0, nt 0, nt 0, nt 0, nt 0, nt 0, nt 0, nt 0, nt 0, nt 0, nt 0, nt 0]) (sz := 18) (by_ := 144) 29 1 #[(0, (Operand.tmp 6))] [.agg (Trk.cells plainT).toArray] (Trk.cells plainT) (some 7) (by kernel_rfl) (by kernel_rfl) (by kernel_rfl) (by omega) rfl (by omega) (by intro v hv; obtain rfl := List.mem_singleton.1 hv; show (Trk.cells plainT).toArray.size = 18; simp [Trk.len]) (by kernel_rfl) (by show (Trk.cells plainT).toArray.toList ++ [] = _; simp) ?_
 intro b4 w4 e4 hb4 k4 z4
 have hsz5 := Keep.size k4
 replace hK0 := hK0.tn k4
 have hb4lt := hb4.lt
 refine Kg (begin_weak (some ⟨b4, 0, none⟩) 1 [(plainT)] _ (slt_blk (xs := [(plainT)]) (f := Trk.cells) hb4 Trk.len rfl) plain_ok) ?_
 rintro _ w8 ⟨b10, r11, gg12, v13, l14, H15, F16, G17, xv18, yv19, zv20, rfl, hb21, hR22, hV23, hL24, hk9, hge25, oH26, oF27, oG28, dHF29, dHG30, dFG31⟩
 refine ⟨_, rfl, ?_⟩
 have hsz32 := Keep.size hk9
 replace hK0 := hK0.tn hk9
 have hb10lt := hb21.lt
 have own33 : ∀ q, H15 q → w4.heap.size ≤ q ∧ q ≠ b4 ∧ q ≠ b10 := fun q hq => by have h1 := oH26 q hq; omega
 have lt34 := Rfr.lt hR22
 have own35 : ∀ q, F16 q → w4.heap.size ≤ q ∧ q ≠ b4 ∧ q ≠ b10 := fun q hq => by have h1 := oF27 q hq; omega
 have lt36 := VotT.lt hV23
 have own37 : ∀ q, G17 q → w4.heap.size ≤ q ∧ q ≠ b4 ∧ q ≠ b10 := fun q hq => by have h1 := oG28 q hq; omega
 have lt38 := Led.lt hL24
 replace hR22 : Rfr H15 w8 r11 gg12 [(plainT)] rwQ0.rs := hR22
 replace hV23 : VotT F16 w8 v13 rwQ0.s := hV23
 replace hL24 : Led G17 w8 l14 rwQ0.xs rwQ0.cs := hL24
 refine On 4 [1] <| Oe <| V_seq <| Vn [1, 10] <| Vf <| Vsk <| V_seq <| V_draws (acts [13]) none_ [[0, 1, 2, 3, 4, 5, 6, 7, 8, 9, 10, 11, 12, 13, 14, 15, 16, 17, 18]] (by kernel_rfl) (by repeat first | exact (by first | exact sure_body (by rintro _ _ ⟨_, _, h, _⟩; exact ⟨_, h⟩) | exact sure_body (by rintro _ _ ⟨_, _, _, _, _, _, _, _, _, _, _, h, _⟩; exact ⟨_, h⟩) | exact sure_body (by rintro _ _ ⟨h, _⟩; exact ⟨_, h⟩)) | refine sure_then ?_ | refine sure_block ?_ | refine sure_join ?_) (by kernel_rfl) ?_
 intro w40 hk39 he41 L hL42
 have hsz43 := Keep.size hk39
 replace hb21 := hb21.k0 hk39
 replace hK0 := hK0.tn hk39
 replace hR22 := hR22.keep hk39 nk
 replace hV23 := hV23.keep hk39 nk
 replace hL24 := hL24.keep hk39 nk
 have qhb21 := hb21
 have K44 : Keep none_ w40 w40 := Keep.refl _ _
 obtain rfl := List.mem_singleton.1 hL42
 refine Gn [3, 4, 5, 6, 7, 8, 9, 10, 11, 12, 13, 14, 15, 16, 17, 18] [1, 14] <| Mr 2 (pt r11) qhb21 <| Gn [7, 8, 9, 10, 11, 12, 13, 14, 15, 16, 17, 18] [1, 15, 18] <| Mr 0 (pt l14) qhb21 <| Gn [11, 12, 13, 14, 15, 16, 17, 18] [1, 15, 19, 22] <| Mr 1 (pt v13) qhb21 <| Gn [13, 14, 15, 16, 17, 18] [1, 15, 19, 23, 24] <| Gk0 (kl 17 #[(.tmp 15), (.tmp 19), (.tmp 23), (.const (nt 1)), (.const (nt 0)), (.tmp 24), (.const (nt 0)), (.const (nt 0))] #[34, 32, 33, 3, 3, 42, 3, 3]) 17 #[pt r11, pt l14, pt v13, nt 1, nt 0, .agg (hshc z0).toArray, nt 0, nt 0] (some 25) (submit_spec H15 r11 gg12 [(plainT)] rwQ0.rs F16 v13 rwQ0.s G17 l14 rwQ0.xs rwQ0.cs 1 0 z0 0 0 _ hR22 hV23 hL24 dHF29 dHG30 dFG31) ?_
 rintro _ w47 ⟨rfl, ⟨F49, F52, F55, ho50, ho53, ho56, hfr51, hfr54, hfr57, hdis58, hdis59, hdis60⟩, hk48⟩
 refine ⟨_, rfl, ?_⟩
 have hsz61 := Keep.size hk48
 replace hb21 := hb21.keep hk48 (fun hs => by rcases hs with hs | hs | hs; (have u9 : _ = gg12 := hs; have u0 := own33 _ (Rfr.atg hR22); have u1 := lt34 _ (Rfr.atg hR22); omega); (have u0 := own35 _ hs; have u1 := lt36 _ hs; omega); (have u0 := own37 _ hs; have u1 := lt38 _ hs; omega))
 replace hK0 := Keep.fresh hK0 hk48 (by intro i hi hs; first | exact hs | (rcases hs with hs | hs | hs; (have u9 : _ = gg12 := hs; have u0 := own33 _ (Rfr.atg hR22); have u1 := lt34 _ (Rfr.atg hR22); omega); (have u0 := own35 i hs; have u1 := lt36 i hs; omega); (have u0 := own37 i hs; have u1 := lt38 i hs; omega)))
 have own63 : ∀ q, F49 q → w4.heap.size ≤ q ∧ q ≠ b4 ∧ q ≠ b10 := fun q hq => by rcases hfr51 q hq with h | h; (have h1 := own33 q h; have h2 := lt34 q h; omega); omega
 have lt62 := Rfr.lt ho50
 have own65 : ∀ q, F52 q → w4.heap.size ≤ q ∧ q ≠ b4 ∧ q ≠ b10 := fun q hq => by rcases hfr54 q hq with h | h; (have h1 := own35 q h; have h2 := lt36 q h; omega); omega
 have lt64 := VotT.lt ho53
 have own67 : ∀ q, F55 q → w4.heap.size ≤ q ∧ q ≠ b4 ∧ q ≠ b10 := fun q hq => by rcases hfr57 q hq with h | h; (have h1 := own37 q h; have h2 := lt38 q h; omega); omega
 have lt66 := Led.lt ho56
 replace ho50 : Rfr F49 w47 r11 gg12 [(plainT)] kwQ1.rs := ho50
 replace ho53 : VotT F52 w47 v13 kwQ1.s := ho53
 replace ho56 : Led F55 w47 l14 kwQ1.xs kwQ1.cs := ho56
 refine Gp_ [(1, pt b10), (25, .tuple #[nt (if RW.subE [(plainT)] rwQ0 1 0 0 = 0 then (rwQ0.rs.length : Int) else 0), nt (RW.subE [(plainT)] rwQ0 1 0 0)])] <| Gq_ (u := .tuple #[nt (if RW.subE [(plainT)] rwQ0 1 0 0 = 0 then (rwQ0.rs.length : Int) else 0), nt (RW.subE [(plainT)] rwQ0 1 0 0)]) (v := .tuple #[nt 0, nt 0]) 25 (by rw [kw1]; rfl) <| Gn [] [1, 2, 3] <| GI_end <| X_then <| V_seq <| V_draws (acts [12]) none_ [[0, 1, 2, 3, 4, 5, 6, 7, 8, 9, 10, 11, 12, 13]] (by kernel_rfl) (by repeat first | exact (by first | exact sure_body (by rintro _ _ ⟨_, _, h, _⟩; exact ⟨_, h⟩) | exact sure_body (by rintro _ _ ⟨_, _, _, _, _, _, _, _, _, _, _, h, _⟩; exact ⟨_, h⟩) | exact sure_body (by rintro _ _ ⟨h, _⟩; exact ⟨_, h⟩)) | refine sure_then ?_ | refine sure_block ?_ | refine sure_join ?_) (by kernel_rfl) ?_
 intro w69 hk68 he70 L hL71
 have hsz72 := Keep.size hk68
 replace hb21 := hb21.k0 hk68
 replace hK0 := hK0.tn hk68
 replace ho50 := ho50.keep hk68 nk
 replace ho53 := ho53.keep hk68 nk
 replace ho56 := ho56.keep hk68 nk
 have qhb21 := hb21
 have K73 : Keep none_ w69 w69 := Keep.refl _ _
 obtain rfl := List.mem_singleton.1 hL71
 refine Gn [3, 4, 5, 6, 7, 8, 9, 10, 11, 12, 13] [1, 2, 3, 30] <| Mr 2 (pt r11) qhb21 <| Gn [7, 8, 9, 10, 11, 12, 13] [1, 2, 3, 31, 34] <| Mr 0 (pt l14) qhb21 <| Gn [11, 12, 13] [1, 2, 3, 31, 35, 38] <| Gc0 33 (.tmp 38) 1 (pt v13) (some 39) qhb21 rfl <| Gk0 (kl 22 #[(.tmp 31), (.tmp 35), (.tmp 39), (.const (nt 29))] #[34, 32, 33, 3]) 22 #[pt r11, pt l14, pt v13, nt 29] (some 40) (service_spec F49 r11 gg12 [(plainT)] kwQ1.rs F52 v13 kwQ1.s F55 l14 kwQ1.xs kwQ1.cs 29 _ ho50 ho53 ho56 hdis58 hdis59 hdis60) ?_
 rintro _ w76 ⟨A78, cap78, rfl, hA78, ow78, ⟨F79, F82, ho80, ho83, hfr81, hfr84, hdis85, dA86, dA87⟩, hk77⟩
 refine ⟨_, rfl, ?_⟩
 have hsz88 := Keep.size hk77
 replace hb21 := hb21.keep hk77 (fun hs => by rcases hs with hs | hs; (have u9 : _ = gg12 := hs; have u0 := own63 _ (Rfr.atg ho50); have u1 := lt62 _ (Rfr.atg ho50); omega); (have u0 := own65 _ hs; have u1 := lt64 _ hs; omega))
 replace hK0 := Keep.fresh hK0 hk77 (by intro i hi hs; first | exact hs | (rcases hs with hs | hs; (have u9 : _ = gg12 := hs; have u0 := own63 _ (Rfr.atg ho50); have u1 := lt62 _ (Rfr.atg ho50); omega); (have u0 := own65 i hs; have u1 := lt64 i hs; omega)))
 replace ho56 := ho56.keep hk77 (fun q hq hs => by rcases hs with hs | hs; exact (fun q h1 h2 => hdis59 q h2 h1) q hq (by rw [show q = gg12 from hs]; exact (Rfr.atg ho50)); exact (fun q h1 h2 => hdis60 q h2 h1) q hq hs)
 have own90 : ∀ q, F79 q → w4.heap.size ≤ q ∧ q ≠ b4 ∧ q ≠ b10 := fun q hq => by rcases hfr81 q hq with h | h; (have h1 := own63 q h; have h2 := lt62 q h; omega); omega
 have lt89 := Rfr.lt ho80
 have dis91 : ∀ q, F79 q → ¬ F55 q := fun q h1 h2 => by rcases hfr81 q h1 with h | h; exact hdis59 q h h2; (have h4 := lt66 q h2; omega)
 have own93 : ∀ q, F82 q → w4.heap.size ≤ q ∧ q ≠ b4 ∧ q ≠ b10 := fun q hq => by rcases hfr84 q hq with h | h; (have h1 := own65 q h; have h2 := lt64 q h; omega); omega
 have lt92 := VotT.lt ho83
 have dis94 : ∀ q, F82 q → ¬ F55 q := fun q h1 h2 => by rcases hfr84 q h1 with h | h; exact hdis60 q h h2; (have h4 := lt66 q h2; omega)
 have ltA78 := SlT.lt hA78
 have dis95 : ∀ q, inA A78 q → ¬ F55 q := fun q h1 h2 => by have h3 := ow78 q h1; have h4 := lt66 q h2; omega
 replace ho80 : Rfr F79 w76 r11 gg12 [(plainT)] kwQ2.rs := ho80
 replace ho83 : VotT F82 w76 v13 kwQ2.s := ho83
 replace ho56 : Led F55 w76 l14 kwQ2.xs kwQ2.cs := ho56
 refine Gp_ [(1, pt b10), (2, nt 0), (3, nt 0), (40, .slice A78 ((rwEvs [(plainT)] kwQ1 29).length) cap78)] <| Gq_ (u := .slice A78 ((rwEvs [(plainT)] kwQ1 29).length) cap78) (v := .slice A78 0 cap78) 40 (by rw [show (rwEvs [(plainT)] kwQ1 29) = ([] : List Evt) from kw2]; rfl) <| Gn [] [1, 2, 3, 4] <| GI_end <| X_then <| V_seq <| V_draws (acts [12]) none_ [[0, 1, 2, 3, 4, 5, 6, 7, 8, 9, 10, 11, 12, 13]] (by kernel_rfl) (by repeat first | exact (by first | exact sure_body (by rintro _ _ ⟨_, _, h, _⟩; exact ⟨_, h⟩) | exact sure_body (by rintro _ _ ⟨_, _, _, _, _, _, _, _, _, _, _, h, _⟩; exact ⟨_, h⟩) | exact sure_body (by rintro _ _ ⟨h, _⟩; exact ⟨_, h⟩)) | refine sure_then ?_ | refine sure_block ?_ | refine sure_join ?_) (by kernel_rfl) ?_
 intro w97 hk96 he98 L hL99
 have hsz100 := Keep.size hk96
 replace hb21 := hb21.k0 hk96
 replace hK0 := hK0.tn hk96
 replace ho56 := ho56.keep hk96 nk
 replace ho80 := ho80.keep hk96 nk
 replace ho83 := ho83.keep hk96 nk
 have qhb21 := hb21
 have K101 : Keep none_ w97 w97 := Keep.refl _ _
 obtain rfl := List.mem_singleton.1 hL99
 refine Gn [3, 4, 5, 6, 7, 8, 9, 10, 11, 12, 13] [1, 2, 3, 4, 43] <| Mr 2 (pt r11) qhb21 <| Gn [7, 8, 9, 10, 11, 12, 13] [1, 2, 3, 4, 44, 47] <| Mr 0 (pt l14) qhb21 <| Gn [11, 12, 13] [2, 3, 4, 44, 48, 51] <| Gc0 33 (.tmp 51) 1 (pt v13) (some 52) qhb21 rfl <| Gk0 (kl 22 #[(.tmp 44), (.tmp 48), (.tmp 52), (.const (nt 30))] #[34, 32, 33, 3]) 22 #[pt r11, pt l14, pt v13, nt 30] (some 53) (service_spec F79 r11 gg12 [(plainT)] kwQ2.rs F82 v13 kwQ2.s F55 l14 kwQ2.xs kwQ2.cs 30 _ ho80 ho83 ho56 hdis85 dis91 dis94) ?_
 rintro _ w104 ⟨A106, cap106, rfl, hA106, ow106, ⟨F107, F110, ho108, ho111, hfr109, hfr112, hdis113, dA114, dA115⟩, hk105⟩
 refine ⟨_, rfl, ?_⟩
 have hsz116 := Keep.size hk105
 replace hK0 := Keep.fresh hK0 hk105 (by intro i hi hs; first | exact hs | (rcases hs with hs | hs; (have u9 : _ = gg12 := hs; have u0 := own90 _ (Rfr.atg ho80); have u1 := lt89 _ (Rfr.atg ho80); omega); (have u0 := own93 i hs; have u1 := lt92 i hs; omega)))
 replace ho56 := ho56.keep hk105 (fun q hq hs => by rcases hs with hs | hs; exact (fun q h1 h2 => dis91 q h2 h1) q hq (by rw [show q = gg12 from hs]; exact (Rfr.atg ho80)); exact (fun q h1 h2 => dis94 q h2 h1) q hq hs)
 have own118 : ∀ q, F107 q → w4.heap.size ≤ q ∧ q ≠ b4 := fun q hq => by rcases hfr109 q hq with h | h; (have h1 := own90 q h; have h2 := lt89 q h; omega); omega
 have lt117 := Rfr.lt ho108
 have dis119 : ∀ q, F107 q → ¬ inA A78 q := fun q h1 h2 => by rcases hfr109 q h1 with h | h; exact (fun q h1 h2 => dA86 q h2 h1) q h h2; (have h4 := ltA78 q h2; omega)
 have dis120 : ∀ q, F107 q → ¬ F55 q := fun q h1 h2 => by rcases hfr109 q h1 with h | h; exact dis91 q h h2; (have h4 := lt66 q h2; omega)
 have own122 : ∀ q, F110 q → w4.heap.size ≤ q ∧ q ≠ b4 := fun q hq => by rcases hfr112 q hq with h | h; (have h1 := own93 q h; have h2 := lt92 q h; omega); omega
 have lt121 := VotT.lt ho111
 have dis123 : ∀ q, F110 q → ¬ inA A78 q := fun q h1 h2 => by rcases hfr112 q h1 with h | h; exact (fun q h1 h2 => dA87 q h2 h1) q h h2; (have h4 := ltA78 q h2; omega)
 have dis124 : ∀ q, F110 q → ¬ F55 q := fun q h1 h2 => by rcases hfr112 q h1 with h | h; exact dis94 q h h2; (have h4 := lt66 q h2; omega)
 have ltA106 := SlT.lt hA106
 have dis125 : ∀ q, inA A106 q → ¬ F55 q := fun q h1 h2 => by have h3 := ow106 q h1; have h4 := lt66 q h2; omega
 replace hA106 := SlT.ofE (xs := (rwEvs [(plainT)] kwQ2 30)) hA106 (show _ = [Evt.mk 1 0 4] from kw3)
 replace ho108 : Rfr F107 w104 r11 gg12 [(plainT)] kwQ3.rs := ho108
 replace ho111 : VotT F110 w104 v13 kwQ3.s := ho111
 replace ho56 : Led F55 w104 l14 kwQ3.xs kwQ3.cs := ho56
 refine Gp_ [(2, nt 0), (3, nt 0), (4, .slice A78 0 cap78), (53, .slice A106 ((rwEvs [(plainT)] kwQ2 30).length) cap106)] <| Gq_ (u := .slice A106 ((rwEvs [(plainT)] kwQ2 30).length) cap106) (v := .slice A106 1 cap106) 53 (by rw [show (rwEvs [(plainT)] kwQ2 30) = [Evt.mk 1 0 4] from kw3]; rfl) <| Gn [] [2, 3, 4, 5] <| GI_end <| X_then <| Vr <| On 18 [70, 71] ?_
 obtain ⟨b126, o126, L126, T126, rfl, hat126⟩ := SlT.open_ hA106 (by first | omega | (simp only [List.length_map]; omega) | (simp; done) | (simp; omega))
 have hb126lt := hat126.blk.lt
 have hob127 := ow106 b126 ⟨_, rfl, rfl⟩
 have hob128 := ltA106 b126 ⟨_, rfl, rfl⟩
 have hne129 : ∀ q, F55 q → q ≠ b126 := fun q hq hs => (fun q h1 h2 => dis125 q h2 h1) q hq ⟨_, rfl, hs⟩
 have own130 := fun q hq => And.intro (own67 q hq) (hne129 q hq)
 have hne131 : ∀ q, F107 q → q ≠ b126 := fun q hq hs => (fun q h1 h2 => dA114 q h2 h1) q hq ⟨_, rfl, hs⟩
 have own132 := fun q hq => And.intro (own118 q hq) (hne131 q hq)
 have hne133 : ∀ q, F110 q → q ≠ b126 := fun q hq hs => (fun q h1 h2 => dA115 q h2 h1) q hq ⟨_, rfl, hs⟩
 have own134 := fun q hq => And.intro (own122 q hq) (hne133 q hq)
 exact Oi (b := b126) (o := o126) (len := 1) (cap := cap106) (j := 0) (some 72) 50 (.tmp 71) (.const (Value.int IntKind.i64 0)) 53 3 24 .i64 <| La (o126 + 0 * 3) (Evt.cells (Evt.mk 1 0 4)) 3 hat126.blk (At.elem' hat126 (es_at (rfl : ([Evt.mk 1 0 4] : List Evt)[0]? = some (Evt.mk 1 0 4)))) (At.len hat126 (es_at (rfl : ([Evt.mk 1 0 4] : List Evt)[0]? = some (Evt.mk 1 0 4)))) <| On 21 [70, 73, 74] <| OI_pure (some 75) ((Op.binOp BinOp.eql 53 (Operand.tmp 73) (Operand.tmp 74) 53)) (by kernel_rfl) (pure_eql_same (xs := Evt.cells (Evt.mk 1 0 4)) (by kernel_rfl) (by kernel_rfl) (by kernel_rfl) (by kernel_rfl)) <| Oen [0] <| Rr (.bool true) ⟨rfl, hK0⟩
end Go.Al

namespace Go.Al
open Go Go.RowKit Go.Proofs
def faT : Trk := { plainT with prepare := 0, decision := 20, confirm := 4 }
theorem fa_ok : okTs [faT] := ⟨by decide, by decide, by decide⟩
def faY : Vt := ⟨1, true, 2, 900, 0, 0⟩
def faN : Vt := ⟨1, false, 6, 900, 0, 0⟩
def fa0 : RW := rwDep [faT] (rwSub [faT] rwQ0 1 0 0 z0 0) 2 0
def fa1 : RW := rwVot fa0 5 0 faY
def fa2 : RW := rwVot fa1 6 0 faY
def faS : Nat → RW
  | 0 => fa2
  | i + 1 => rwSvc [faT] (faS i) ((i + 1 : Nat) : Int)
def faB (j : Nat) : RW := rwVot (faS j) 3 0 faN
def faR (j : Nat) : Nat → RW
  | 0 => faB j
  | i + 1 => rwSvc [faT] (faR j i) ((j + i + 1 : Nat) : Int)
def faU (j k : Nat) : RW := rwUnv (faR j k) 3 0 ((j + k : Nat) : Int)
def faD (j k : Nat) : Nat → RW
  | 0 => rwSvc [faT] (faU j k) ((j + k + 1 : Nat) : Int)
  | i + 1 => rwSvc [faT] (faD j k i) ((j + k + 1 + i + 1 : Nat) : Int)
def faE (j k : Nat) : RW := rwSvc [faT] (faD j k 3) ((j + k + 1 + 3 + 1 : Nat) : Int)
theorem fa_votes : RW.votE fa0 5 0 faY = 0 ∧ RW.votE fa1 6 0 faY = 0 := ⟨by kernel_rfl, by kernel_rfl⟩
theorem fa_all : ((List.range 4).all fun j => (List.range 5).all fun k => (j == 0 || k == 0) || decide (RW.votE (faS j) 3 0 faN = 0 ∧ (getA (faR j k).rs 0).state = 1 ∧ (getA (faR j k).rs 0).till = -1 ∧ unvE (faR j k).s 3 0 = 0 ∧
    (getA (faD j k 0).rs 0).till = w64 (w64 (w64 ((getA (faD j k 0).rs 0).since + j) + k) + 4) ∧ rwEvs [faT] (faD j k 0) ((j + k + 1 + 0 + 1 : Nat) : Int) = [] ∧ rwEvs [faT] (faD j k 1) ((j + k + 1 + 1 + 1 : Nat) : Int) = [] ∧ rwEvs [faT] (faD j k 2) ((j + k + 1 + 2 + 1 : Nat) : Int) = [] ∧
    (rwEvs [faT] (faD j k 3) ((j + k + 1 + 3 + 1 : Nat) : Int)).length = 1 ∧ (getR (faE j k).rs 0).isSome = true ∧ (getA (faE j k).rs 0).state = 2)) = true := by kernel_rfl
theorem fa_cs : ((List.range 4).all fun j => decide ((faS j).cs.length < 100)) = true := by kernel_rfl
theorem fa3 {j k : Nat} (hj : 1 ≤ j ∧ j ≤ 3) (hk : 1 ≤ k ∧ k ≤ 4) : RW.votE (faS j) 3 0 faN = 0 ∧ (getA (faR j k).rs 0).state = 1 ∧ (getA (faR j k).rs 0).till = -1 ∧ unvE (faR j k).s 3 0 = 0 ∧
    (getA (faD j k 0).rs 0).till = w64 (w64 (w64 ((getA (faD j k 0).rs 0).since + j) + k) + 4) ∧ (∀ i, i < 3 → rwEvs [faT] (faD j k i) ((j + k + 1 + i + 1 : Nat) : Int) = []) ∧
    (rwEvs [faT] (faD j k 3) ((j + k + 1 + 3 + 1 : Nat) : Int)).length = 1 ∧ (getR (faE j k).rs 0).isSome = true ∧ (getA (faE j k).rs 0).state = 2 := by
  have h := List.all_eq_true.1 (List.all_eq_true.1 fa_all j (List.mem_range.2 (by omega))) k (List.mem_range.2 (by omega))
  rcases Bool.or_eq_true_iff.1 h with h | h
  · simp only [Bool.or_eq_true, beq_iff_eq] at h; omega
  · have h9 := of_decide_eq_true h
    refine ⟨h9.1, h9.2.1, h9.2.2.1, h9.2.2.2.1, h9.2.2.2.2.1, fun i hi => ?_, h9.2.2.2.2.2.2.2.2.1, h9.2.2.2.2.2.2.2.2.2.1, h9.2.2.2.2.2.2.2.2.2.2⟩
    rcases (by omega : i = 0 ∨ i = 1 ∨ i = 2) with rfl | rfl | rfl
    · exact h9.2.2.2.2.2.1
    · exact h9.2.2.2.2.2.2.1
    · exact h9.2.2.2.2.2.2.2.1
theorem fa_l0 : fa0.cs.length < 100000 := by rw [show fa0.cs.length = 0 by kernel_rfl]; decide
theorem fa_l1 : fa1.cs.length < 100000 := by rw [show fa1.cs.length = 1 by kernel_rfl]; decide
theorem fa_cs3 {j : Nat} (h : j ≤ 3) : (faS j).cs.length < 100000 := by
  have := of_decide_eq_true (List.all_eq_true.1 fa_cs j (List.mem_range.2 (by omega)))
  omega
end Go.Al

namespace Go.Al
open Go Go.RowKit Go.Proofs
theorem unvote_specT (F : Nat → Prop) (v : Nat) (s : VS) (who ref now : Int) (w : World) (h : VotT F w v s) : Calls Tryz.prog 33 #[pt v, nt who, nt ref, nt now] w fun e w' => e = .returned (nt (unvE s who ref)) ∧ (∃ F', VotT F' w' v (unvS s who ref now) ∧ (∀ q, F' q → F q ∨ w.heap.size ≤ q)) ∧ Keep F w w' := by
  obtain ⟨h, ht⟩ := h
  refine ((let ⟨P, h⟩ := h; unvote_at F v P s who ref now w h ht)).mono ?_
  rintro e w' ⟨rfl, ⟨F', h1, h3⟩, hk⟩
  exact ⟨rfl, ⟨F', ⟨h1, ht.unvS _ _ _⟩, h3⟩, hk⟩
end Go.Al

namespace Go.Al
open Go Go.RowKit Go.Proofs
set_option maxHeartbeats 2000000 in
theorem walk_ReferFails (stop again : Int) (w : World) : Calls Tryz.prog 11 #[nt stop, nt again] w (rk_ w (.bool true)) := by
 have hK0 : Keep none_ w w := Keep.refl _ _
 have hzhK0 := Keep.size hK0
 refine eV ?_
 refine Vr <| On 1 [0, 1] <| Oe <| V_seq <| Vr <| On 3 [0, 1, 22] ?_
 by_cases hg1 : stop < 1
 ·
  exact Dt 22 hg1 <| Oen [0, 1, 33] <| Vo <| Vn [4] <| Rt <| Xr (.bool true) ⟨rfl, hK0⟩
 refine Df 22 hg1 <| On 7 [0, 1, 26] ?_
 by_cases hg2 : stop > 3
 ·
  exact Dt 26 hg2 <| Oen [0, 1, 33] <| Vo <| Vn [4] <| Rt <| Xr (.bool true) ⟨rfl, hK0⟩
 refine Df 26 hg2 <| On 11 [0, 1, 30] ?_
 by_cases hg3 : again < 1
 ·
  exact Dt 30 hg3 <| Oen [0, 1, 33] <| Vo <| Vn [4] <| Rt <| Xr (.bool true) ⟨rfl, hK0⟩
 refine Df 30 hg3 <| Oen [0, 1, 33] <| Vi (again > 4) (fun hc4 => ?_) (fun hc4 => ?_)
 ·
  exact Vn [4] <| Rt <| Xr (.bool true) ⟨rfl, hK0⟩
 refine Vsk <| Vr <| Kk (plain_spec _) fun w5 hk6 _ => ?_
 replace hK0 := hK0.tn hk6
 refine Al 27 (.agg (Trk.cells Trk.zero).toArray) (Trk.cells Trk.zero) ?_
 intro b8 w8 e8 hb8 k8 z8
 have hsz9 := Keep.size k8
 replace hK0 := hK0.tn k8
 have hb8lt := hb8.lt
 refine Sg 0 (Trk.cells plainT) hb8 (Trk.len _) (Trk.one _) ?_
 intro w10 hb8_13 hk11 hz12
 replace hb8_13 : Blk w10 b8 (Trk.cells plainT) 27 := (Blk.eqL (Trk.over _ _) hb8_13)
 have hsz14 := Keep.size hk11
 replace hK0 := Keep.fr hK0 hk11
 refine Oer <| On 1 [0, 1, 5, 35] <| St_ 2 (nt 0) hb8_13 ?_
 intro w15 hb8_18 hk16 hz17
 replace hb8_18 : Blk w15 b8 (Trk.cells { plainT with prepare := 0 }) 27 := (Blk.eqL (by kernel_rfl) hb8_18)
 have hsz19 := Keep.size hk16
 replace hK0 := Keep.fr hK0 hk16
 refine On 3 [0, 1, 5, 36] <| St_ 3 (nt 20) hb8_18 ?_
 intro w20 hb8_23 hk21 hz22
 replace hb8_23 : Blk w20 b8 (Trk.cells { plainT with prepare := 0, decision := 20 }) 27 := (Blk.eqL (by kernel_rfl) hb8_23)
 have hsz24 := Keep.size hk21
 replace hK0 := Keep.fr hK0 hk21
 refine On 5 [0, 1, 5, 37] <| St_ 4 (nt 4) hb8_23 ?_
 intro w25 hb8_28 hk26 hz27
 replace hb8_28 : Blk w25 b8 (Trk.cells { plainT with prepare := 0, decision := 20, confirm := 4 }) 27 := (Blk.eqL (by kernel_rfl) hb8_28)
 have hsz29 := Keep.size hk26
 replace hK0 := Keep.fr hK0 hk26
 refine Oer <| La 0 (Trk.cells { plainT with prepare := 0, decision := 20, confirm := 4 }) 18 hb8_28 (take_all (Trk.len _)) (Trk.len _) <| OI_slit (E := 27) (zv := .agg #[nt 0, nt 0, nt 0, nt 0, nt 0, nt 0, nt 0, nt 0, nt 0, nt 0, nt 0, nt 0, nt 0, nt 0, nt 0, nt 0, nt 0, nt 0]) (sz := 18) (by_ := 144) 29 1 #[(0, (Operand.tmp 38))] [.agg (Trk.cells { plainT with prepare := 0, decision := 20, confirm := 4 }).toArray] (Trk.cells { plainT with prepare := 0, decision := 20, confirm := 4 }) (some 39) (by kernel_rfl) (by kernel_rfl) (by kernel_rfl) (by omega) rfl (by omega) (by intro v hv; obtain rfl := List.mem_singleton.1 hv; show (Trk.cells { plainT with prepare := 0, decision := 20, confirm := 4 }).toArray.size = 18; simp [Trk.len]) (by kernel_rfl) (by show (Trk.cells { plainT with prepare := 0, decision := 20, confirm := 4 }).toArray.toList ++ [] = _; simp) ?_
 intro b30 w30 e30 hb30 k30 z30
 have hsz31 := Keep.size k30
 replace hK0 := hK0.tn k30
 have hb30lt := hb30.lt
 refine Kg (begin_weak (some ⟨b30, 0, none⟩) 1 [({ plainT with prepare := 0, decision := 20, confirm := 4 })] _ (slt_blk (xs := [({ plainT with prepare := 0, decision := 20, confirm := 4 })]) (f := Trk.cells) hb30 Trk.len rfl) fa_ok) ?_
 rintro _ w34 ⟨b36, r37, gg38, v39, l40, H41, F42, G43, xv44, yv45, zv46, rfl, hb47, hR48, hV49, hL50, hk35, hge51, oH52, oF53, oG54, dHF55, dHG56, dFG57⟩
 refine ⟨_, rfl, ?_⟩
 have hsz58 := Keep.size hk35
 replace hK0 := hK0.tn hk35
 have hb36lt := hb47.lt
 replace hR48 : Rfr H41 w34 r37 gg38 [faT] [] := hR48
 have own59 : ∀ q, H41 q → w30.heap.size ≤ q ∧ q ≠ b8 ∧ q ≠ b30 ∧ q ≠ b36 := fun q hq => by have h1 := oH52 q hq; omega
 have lt60 := Rfr.lt hR48
 have own61 : ∀ q, F42 q → w30.heap.size ≤ q ∧ q ≠ b8 ∧ q ≠ b30 ∧ q ≠ b36 := fun q hq => by have h1 := oF53 q hq; omega
 have lt62 := VotT.lt hV49
 have own63 : ∀ q, G43 q → w30.heap.size ≤ q ∧ q ≠ b8 ∧ q ≠ b30 ∧ q ≠ b36 := fun q hq => by have h1 := oG54 q hq; omega
 have lt64 := Led.lt hL50
 replace hR48 : Rfr H41 w34 r37 gg38 [faT] rwQ0.rs := hR48
 replace hV49 : VotT F42 w34 v39 rwQ0.s := hV49
 replace hL50 : Led G43 w34 l40 rwQ0.xs rwQ0.cs := hL50
 refine On 4 [0, 1, 5, 6] <| Oe <| V_seq <| Vn [0, 1, 5, 6, 42] <| Vf <| Vsk <| V_seq <| V_draws (acts [13]) none_ [[0, 1, 2, 3, 4, 5, 6, 7, 8, 9, 10, 11, 12, 13]] (by kernel_rfl) (by repeat first | exact (by first | exact sure_body (by rintro _ _ ⟨_, _, h, _⟩; exact ⟨_, h⟩) | exact sure_body (by rintro _ _ ⟨_, _, _, _, _, _, _, _, _, _, _, h, _⟩; exact ⟨_, h⟩) | exact sure_body (by rintro _ _ ⟨h, _⟩; exact ⟨_, h⟩)) | refine sure_then ?_ | refine sure_block ?_ | refine sure_join ?_) (by kernel_rfl) ?_
 intro w66 hk65 he67 L hL68
 have hsz69 := Keep.size hk65
 replace hb8_28 := hb8_28.k0 ((k30.tr hk35).tr hk65)
 replace hb47 := hb47.k0 hk65
 replace hK0 := hK0.tn hk65
 replace hR48 := hR48.keep hk65 nk
 replace hV49 := hV49.keep hk65 nk
 replace hL50 := hL50.keep hk65 nk
 have qhb47 := hb47
 have K70 : Keep none_ w66 w66 := Keep.refl _ _
 obtain rfl := List.mem_singleton.1 hL68
 refine Gn [3, 4, 5, 6, 7, 8, 9, 10, 11, 12, 13] [0, 1, 5, 6, 45] <| Mr 2 (pt r37) qhb47 <| Gn [7, 8, 9, 10, 11, 12, 13] [0, 1, 5, 6, 46, 49] <| Mr 0 (pt l40) qhb47 <| Gn [11, 12, 13] [0, 1, 5, 6, 46, 50, 53] <| Mr 1 (pt v39) qhb47 <| Gn [13] [0, 1, 5, 6, 46, 50, 54, 55] <| GI_final 13 (by kernel_rfl) (by kernel_rfl) <| Kg (submit_spec H41 r37 gg38 [faT] rwQ0.rs F42 v39 rwQ0.s G43 l40 rwQ0.xs rwQ0.cs 1 0 z0 0 0 _ hR48 hV49 hL50 dHF55 dHG56 dFG57) ?_
 rintro _ w73 ⟨rfl, ⟨F75, F78, F81, ho76, ho79, ho82, hfr77, hfr80, hfr83, hdis84, hdis85, hdis86⟩, hk74⟩
 refine ⟨_, rfl, ?_⟩
 have hsz87 := Keep.size hk74
 replace hb8_28 := hb8_28.keep hk74 (fun hs => by rcases hs with hs | hs | hs; (have u9 : _ = gg38 := hs; have u0 := own59 _ (Rfr.atg hR48); have u1 := lt60 _ (Rfr.atg hR48); omega); (have u0 := own61 _ hs; have u1 := lt62 _ hs; omega); (have u0 := own63 _ hs; have u1 := lt64 _ hs; omega))
 replace hb47 := hb47.keep hk74 (fun hs => by rcases hs with hs | hs | hs; (have u9 : _ = gg38 := hs; have u0 := own59 _ (Rfr.atg hR48); have u1 := lt60 _ (Rfr.atg hR48); omega); (have u0 := own61 _ hs; have u1 := lt62 _ hs; omega); (have u0 := own63 _ hs; have u1 := lt64 _ hs; omega))
 replace hK0 := Keep.fresh hK0 hk74 (by intro i hi hs; first | exact hs | (rcases hs with hs | hs | hs; (have u9 : _ = gg38 := hs; have u0 := own59 _ (Rfr.atg hR48); have u1 := lt60 _ (Rfr.atg hR48); omega); (have u0 := own61 i hs; have u1 := lt62 i hs; omega); (have u0 := own63 i hs; have u1 := lt64 i hs; omega)))
 have own89 : ∀ q, F75 q → w30.heap.size ≤ q ∧ q ≠ b8 ∧ q ≠ b30 ∧ q ≠ b36 := fun q hq => by rcases hfr77 q hq with h | h; (have h1 := own59 q h; have h2 := lt60 q h; omega); omega
 have lt88 := Rfr.lt ho76
 have own91 : ∀ q, F78 q → w30.heap.size ≤ q ∧ q ≠ b8 ∧ q ≠ b30 ∧ q ≠ b36 := fun q hq => by rcases hfr80 q hq with h | h; (have h1 := own61 q h; have h2 := lt62 q h; omega); omega
 have lt90 := VotT.lt ho79
 have own93 : ∀ q, F81 q → w30.heap.size ≤ q ∧ q ≠ b8 ∧ q ≠ b30 ∧ q ≠ b36 := fun q hq => by rcases hfr83 q hq with h | h; (have h1 := own63 q h; have h2 := lt64 q h; omega); omega
 have lt92 := Led.lt ho82
 replace ho76 : Rfr F75 w73 r37 gg38 [faT] (rwSub [faT] rwQ0 1 0 0 z0 0).rs := ho76
 replace ho79 : VotT F78 w73 v39 ((rwSub [faT] rwQ0 1 0 0 z0 0).s) := ho79
 replace ho82 : Led F81 w73 l40 (rwSub [faT] rwQ0 1 0 0 z0 0).xs (rwSub [faT] rwQ0 1 0 0 z0 0).cs := ho82
 refine Oe <| V_seq <| V_draws (acts [8]) none_ [[0, 1, 2, 3, 4, 5, 6, 7, 8]] (by kernel_rfl) (by repeat first | exact (by first | exact sure_body (by rintro _ _ ⟨_, _, h, _⟩; exact ⟨_, h⟩) | exact sure_body (by rintro _ _ ⟨_, _, _, _, _, _, _, _, _, _, _, h, _⟩; exact ⟨_, h⟩) | exact sure_body (by rintro _ _ ⟨h, _⟩; exact ⟨_, h⟩)) | refine sure_then ?_ | refine sure_block ?_ | refine sure_join ?_) (by kernel_rfl) ?_
 intro w95 hk94 he96 L hL97
 have hsz98 := Keep.size hk94
 replace hb8_28 := hb8_28.k0 hk94
 replace hb47 := hb47.k0 hk94
 replace hK0 := hK0.tn hk94
 replace ho76 := ho76.keep hk94 nk
 replace ho79 := ho79.keep hk94 nk
 replace ho82 := ho82.keep hk94 nk
 have qhb47 := hb47
 have K99 : Keep none_ w95 w95 := Keep.refl _ _
 obtain rfl := List.mem_singleton.1 hL97
 refine Gn [3, 4, 5, 6, 7, 8] [0, 1, 5, 6, 59] <| Mr 2 (pt r37) qhb47 <| Gn [7, 8] [0, 1, 5, 6, 60, 63] <| Mr 0 (pt l40) qhb47 <| GI_final 8 (by kernel_rfl) (by kernel_rfl) <| Kg (deposit_spec F75 r37 gg38 [faT] (rwSub [faT] rwQ0 1 0 0 z0 0).rs F81 l40 (rwSub [faT] rwQ0 1 0 0 z0 0).xs (rwSub [faT] rwQ0 1 0 0 z0 0).cs 2 0 _ ho76 ho82 hdis85) ?_
 rintro _ w102 ⟨rfl, ⟨F104, F107, ho105, ho108, hfr106, hfr109, hdis110⟩, hk103⟩
 refine ⟨_, rfl, ?_⟩
 have hsz111 := Keep.size hk103
 replace hb8_28 := hb8_28.keep hk103 (fun hs => by rcases hs with hs | hs; (have u9 : _ = gg38 := hs; have u0 := own89 _ (Rfr.atg ho76); have u1 := lt88 _ (Rfr.atg ho76); omega); (have u0 := own93 _ hs; have u1 := lt92 _ hs; omega))
 replace hb47 := hb47.keep hk103 (fun hs => by rcases hs with hs | hs; (have u9 : _ = gg38 := hs; have u0 := own89 _ (Rfr.atg ho76); have u1 := lt88 _ (Rfr.atg ho76); omega); (have u0 := own93 _ hs; have u1 := lt92 _ hs; omega))
 replace hK0 := Keep.fresh hK0 hk103 (by intro i hi hs; first | exact hs | (rcases hs with hs | hs; (have u9 : _ = gg38 := hs; have u0 := own89 _ (Rfr.atg ho76); have u1 := lt88 _ (Rfr.atg ho76); omega); (have u0 := own93 i hs; have u1 := lt92 i hs; omega)))
 replace ho79 := ho79.keep hk103 (fun q hq hs => by rcases hs with hs | hs; exact (fun q h1 h2 => hdis84 q h2 h1) q hq (by rw [show q = gg38 from hs]; exact (Rfr.atg ho76)); exact hdis86 q hq hs)
 have own113 : ∀ q, F104 q → w30.heap.size ≤ q ∧ q ≠ b8 ∧ q ≠ b30 ∧ q ≠ b36 := fun q hq => by rcases hfr106 q hq with h | h; (have h1 := own89 q h; have h2 := lt88 q h; omega); omega
 have lt112 := Rfr.lt ho105
 have dis114 : ∀ q, F104 q → ¬ F78 q := fun q h1 h2 => by rcases hfr106 q h1 with h | h; exact hdis84 q h h2; (have h4 := lt90 q h2; omega)
 have own116 : ∀ q, F107 q → w30.heap.size ≤ q ∧ q ≠ b8 ∧ q ≠ b30 ∧ q ≠ b36 := fun q hq => by rcases hfr109 q hq with h | h; (have h1 := own93 q h; have h2 := lt92 q h; omega); omega
 have lt115 := Led.lt ho108
 have dis117 : ∀ q, F107 q → ¬ F78 q := fun q h1 h2 => by rcases hfr109 q h1 with h | h; exact (fun q h1 h2 => hdis86 q h2 h1) q h h2; (have h4 := lt90 q h2; omega)
 replace ho105 : Rfr F104 w102 r37 gg38 [faT] fa0.rs := ho105
 replace ho79 : VotT F78 w102 v39 fa0.s := ho79
 replace ho108 : Led F107 w102 l40 fa0.xs fa0.cs := ho108
 refine Oer <| On 1 [0, 1, 5, 6, 66] <| Al 67 (.agg #[nt 0, .bool false, nt 0, nt 0, nt 0, nt 0]) [nt 0, .bool false, nt 0, nt 0, nt 0, nt 0] ?_
 intro b118 w118 e118 hb118 k118 z118
 have hsz119 := Keep.size k118
 replace hb8_28 := hb8_28.k0 k118
 replace hb47 := hb47.k0 k118
 replace hK0 := hK0.tn k118
 replace ho79 := ho79.keep k118 nk
 replace ho105 := ho105.keep k118 nk
 replace ho108 := ho108.keep k118 nk
 have hb118lt := hb118.lt
 refine Sg 0 (Vt.cells (Vt.mk 1 true 2 900 0 0)) hb118 (Vt.len _) (Vt.one _) ?_
 intro w120 hb118_123 hk121 hz122
 replace hb118_123 : Blk w120 b118 (Vt.cells (Vt.mk 1 true 2 900 0 0)) 67 := (by rwa [over_whole (by rw [Vt.len]; rfl)] at hb118_123)
 have hsz124 := Keep.size hk121
 replace hb8_28 := hb8_28.k1 hk121
 replace hb47 := hb47.k1 hk121
 replace hK0 := Keep.fr hK0 hk121
 replace ho79 := ho79.keep hk121 (fun q hq hs => by have hs : q = b118 := hs; have g0 := own91 q hq; have g1 := lt90 q hq; omega)
 replace ho105 := ho105.keep hk121 (fun q hq hs => by have hs : q = b118 := hs; have g0 := own113 q hq; have g1 := lt112 q hq; omega)
 replace ho108 := ho108.keep hk121 (fun q hq hs => by have hs : q = b118 := hs; have g0 := own116 q hq; have g1 := lt115 q hq; omega)
 refine Oer <| On 1 [0, 1, 5, 6, 7, 67] <| Al 67 (.agg #[nt 0, .bool false, nt 0, nt 0, nt 0, nt 0]) [nt 0, .bool false, nt 0, nt 0, nt 0, nt 0] ?_
 intro b125 w125 e125 hb125 k125 z125
 have hsz126 := Keep.size k125
 replace hb8_28 := hb8_28.k0 k125
 replace hb47 := hb47.k0 k125
 replace hb118_123 := hb118_123.k0 k125
 replace hK0 := hK0.tn k125
 replace ho79 := ho79.keep k125 nk
 replace ho105 := ho105.keep k125 nk
 replace ho108 := ho108.keep k125 nk
 have hb125lt := hb125.lt
 refine Sg 0 (Vt.cells (Vt.mk 1 false 6 900 0 0)) hb125 (Vt.len _) (Vt.one _) ?_
 intro w127 hb125_130 hk128 hz129
 replace hb125_130 : Blk w127 b125 (Vt.cells (Vt.mk 1 false 6 900 0 0)) 67 := (by rwa [over_whole (by rw [Vt.len]; rfl)] at hb125_130)
 have hsz131 := Keep.size hk128
 replace hb8_28 := hb8_28.k1 hk128
 replace hb47 := hb47.k1 hk128
 replace hb118_123 := hb118_123.k1 hk128
 replace hK0 := Keep.fr hK0 hk128
 replace ho79 := ho79.keep hk128 (fun q hq hs => by have hs : q = b125 := hs; have g0 := own91 q hq; have g1 := lt90 q hq; omega)
 replace ho105 := ho105.keep hk128 (fun q hq hs => by have hs : q = b125 := hs; have g0 := own113 q hq; have g1 := lt112 q hq; omega)
 replace ho108 := ho108.keep hk128 (fun q hq hs => by have hs : q = b125 := hs; have g0 := own116 q hq; have g1 := lt115 q hq; omega)
 refine Oe <| V_seq <| V_seq <| V_draws (acts [9, 21]) (fun q => F78 q ∨ F107 q) [[0, 1, 2, 3, 4, 5, 6, 7, 8, 9, 10, 11, 12, 13, 14, 15, 16, 17, 18, 19, 20, 21, 22, 23]] (by kernel_rfl) (by repeat first | exact (by first | exact sure_body (by rintro _ _ ⟨_, _, h, _⟩; exact ⟨_, h⟩) | exact sure_body (by rintro _ _ ⟨_, _, _, _, _, _, _, _, _, _, _, h, _⟩; exact ⟨_, h⟩) | exact sure_body (by rintro _ _ ⟨h, _⟩; exact ⟨_, h⟩)) | refine sure_then ?_ | refine sure_block ?_ | refine sure_join ?_) (by kernel_rfl) ?_
 intro w133 hk132 he134 L hL135
 have hsz136 := Keep.size hk132
 replace hb8_28 := hb8_28.k0 hk132
 replace hb47 := hb47.k0 hk132
 replace hb118_123 := hb118_123.k0 hk132
 replace hb125_130 := hb125_130.k0 hk132
 replace hK0 := hK0.tn hk132
 replace ho79 := ho79.keep hk132 nk
 replace ho105 := ho105.keep hk132 nk
 replace ho108 := ho108.keep hk132 nk
 have qhb47 := hb47
 have qhb118_123 := hb118_123
 have K137 : Keep (fun q => F78 q ∨ F107 q) w133 w133 := Keep.refl _ _
 obtain rfl := List.mem_singleton.1 hL135
 refine Gn [3, 4, 5, 6, 7, 8, 9, 10, 11, 12, 13, 14, 15, 16, 17, 18, 19, 20, 21, 22, 23] [0, 1, 5, 6, 7, 8, 70] <| Mc 1 (pt v39) qhb47 (fun hs => by rcases hs with hs | hs; (have h1 := own91 _ hs; have h2 := lt90 _ hs; omega); (have h1 := own116 _ hs; have h2 := lt115 _ hs; omega)) rfl <| Gs [7, 8, 9, 10, 11, 12, 13, 14, 15, 16, 17, 18, 19, 20, 21, 22, 23] [(0, nt stop), (1, nt again), (5, pt b8), (6, pt b36), (7, pt b118), (8, pt b125), (71, pt v39), (74, pt b36)] <| Gc 32 (.tmp 74) 0 (pt l40) (some 75) qhb47 (fun hs => by rcases hs with hs | hs; (have h1 := own91 _ hs; have h2 := lt90 _ hs; omega); (have h1 := own116 _ hs; have h2 := lt115 _ hs; omega)) rfl <| Ga 67 (.tmp 7) 0 (Vt.cells (Vt.mk 1 true 2 900 0 0)) (some 76) 6 qhb118_123 (fun hs => by rcases hs with hs | hs; (have h1 := own91 _ hs; have h2 := lt90 _ hs; omega); (have h1 := own116 _ hs; have h2 := lt115 _ hs; omega)) (take_all (Vt.len _)) (Vt.len _) <| Gk (kl 31 #[(.tmp 71), (.tmp 75), (.const (nt 5)), (.const (nt 0)), (.tmp 76)] #[33, 32, 3, 3, 67]) 31 #[pt v39, pt l40, nt 5, nt 0, .agg (Vt.cells (Vt.mk 1 true 2 900 0 0)).toArray] (some 77) (vote_spec F78 F107 v39 l40 fa0.s fa0.xs fa0.cs 5 0 (Vt.mk 1 true 2 900 0 0) _ ho79 ho108 (fun q h1 h2 => dis117 q h2 h1) (by first | exact fa_cs3 (by omega) | exact (by decide : ([] : List Ci).length < 100000) | exact fa_l1 | exact fa_l0)) ?_
 rintro _ w140 ⟨rfl, ⟨F142, F145, ho143, ho146, hfr144, hfr147, hdis148⟩, hk141⟩
 have K149 := Keep.fresh K137 hk141 (by intro i hi hs; first | exact hs | (rcases hs with hs | hs; (have u0 := own91 i hs; have u1 := lt90 i hs; omega); (have u0 := own116 i hs; have u1 := lt115 i hs; omega)))
 refine ⟨_, rfl, K149, ?_⟩
 have hzK149 := Keep.size K149
 have hsz150 := Keep.size hk141
 replace hb8_28 := hb8_28.keep hk141 (fun hs => by rcases hs with hs | hs; (have u0 := own91 _ hs; have u1 := lt90 _ hs; omega); (have u0 := own116 _ hs; have u1 := lt115 _ hs; omega))
 replace hb47 := hb47.keep hk141 (fun hs => by rcases hs with hs | hs; (have u0 := own91 _ hs; have u1 := lt90 _ hs; omega); (have u0 := own116 _ hs; have u1 := lt115 _ hs; omega))
 replace hb125_130 := hb125_130.keep hk141 (fun hs => by rcases hs with hs | hs; (have u0 := own91 _ hs; have u1 := lt90 _ hs; omega); (have u0 := own116 _ hs; have u1 := lt115 _ hs; omega))
 replace hK0 := Keep.fresh hK0 hk141 (by intro i hi hs; first | exact hs | (rcases hs with hs | hs; (have u0 := own91 i hs; have u1 := lt90 i hs; omega); (have u0 := own116 i hs; have u1 := lt115 i hs; omega)))
 replace ho105 := ho105.keep hk141 (fun q hq hs => by rcases hs with hs | hs; exact dis114 q hq hs; exact hdis110 q hq hs)
 have own152 : ∀ q, F142 q → w30.heap.size ≤ q ∧ q ≠ b8 ∧ q ≠ b30 ∧ q ≠ b36 ∧ q ≠ b118 ∧ q ≠ b125 := fun q hq => by rcases hfr144 q hq with h | h; (have h1 := own91 q h; have h2 := lt90 q h; omega); omega
 have lt151 := VotT.lt ho143
 have dis153 : ∀ q, F142 q → ¬ F104 q := fun q h1 h2 => by rcases hfr144 q h1 with h | h; exact (fun q h1 h2 => dis114 q h2 h1) q h h2; (have h4 := lt112 q h2; omega)
 have own155 : ∀ q, F145 q → w30.heap.size ≤ q ∧ q ≠ b8 ∧ q ≠ b30 ∧ q ≠ b36 ∧ q ≠ b118 ∧ q ≠ b125 := fun q hq => by rcases hfr147 q hq with h | h; (have h1 := own116 q h; have h2 := lt115 q h; omega); omega
 have lt154 := Led.lt ho146
 have dis156 : ∀ q, F145 q → ¬ F104 q := fun q h1 h2 => by rcases hfr147 q h1 with h | h; exact (fun q h1 h2 => hdis110 q h2 h1) q h h2; (have h4 := lt112 q h2; omega)
 replace ho105 : Rfr F104 w140 r37 gg38 [faT] fa1.rs := ho105
 replace ho143 : VotT F142 w140 v39 fa1.s := ho143
 replace ho146 : Led F145 w140 l40 fa1.xs fa1.cs := ho146
 refine Gp_ [(0, nt stop), (1, nt again), (5, pt b8), (6, pt b36), (7, pt b118), (8, pt b125), (77, nt (RW.votE fa0 5 0 (Vt.mk 1 true 2 900 0 0)))] <| Gq_ (u := nt (RW.votE fa0 5 0 (Vt.mk 1 true 2 900 0 0))) (v := nt 0) 77 (by rw [show RW.votE fa0 5 0 (Vt.mk 1 true 2 900 0 0) = 0 from fa_votes.1]) <| Gn [15, 16, 17, 18, 19, 20, 21, 22, 23] [0, 1, 5, 6, 7, 8, 79, 82] <| Mc 1 (pt v39) qhb47 (fun hs => by rcases hs with hs | hs; (have h1 := own91 _ hs; have h2 := lt90 _ hs; omega); (have h1 := own116 _ hs; have h2 := lt115 _ hs; omega)) rfl <| Gn [19, 20, 21, 22, 23] [0, 1, 5, 6, 7, 8, 79, 83, 86] <| Gc 32 (.tmp 86) 0 (pt l40) (some 87) qhb47 (fun hs => by rcases hs with hs | hs; (have h1 := own91 _ hs; have h2 := lt90 _ hs; omega); (have h1 := own116 _ hs; have h2 := lt115 _ hs; omega)) rfl <| Ga 67 (.tmp 7) 0 (Vt.cells (Vt.mk 1 true 2 900 0 0)) (some 88) 6 qhb118_123 (fun hs => by rcases hs with hs | hs; (have h1 := own91 _ hs; have h2 := lt90 _ hs; omega); (have h1 := own116 _ hs; have h2 := lt115 _ hs; omega)) (take_all (Vt.len _)) (Vt.len _) <| Gk0 (kl 31 #[(.tmp 83), (.tmp 87), (.const (nt 6)), (.const (nt 0)), (.tmp 88)] #[33, 32, 3, 3, 67]) 31 #[pt v39, pt l40, nt 6, nt 0, .agg (Vt.cells (Vt.mk 1 true 2 900 0 0)).toArray] (some 89) (vote_spec F142 F145 v39 l40 fa1.s fa1.xs fa1.cs 6 0 (Vt.mk 1 true 2 900 0 0) _ ho143 ho146 hdis148 (by first | exact fa_cs3 (by omega) | exact (by decide : ([] : List Ci).length < 100000) | exact fa_l1 | exact fa_l0)) ?_
 rintro _ w159 ⟨rfl, ⟨F161, F164, ho162, ho165, hfr163, hfr166, hdis167⟩, hk160⟩
 refine ⟨_, rfl, ?_⟩
 have hsz168 := Keep.size hk160
 replace hb8_28 := hb8_28.keep hk160 (fun hs => by rcases hs with hs | hs; (have u0 := own152 _ hs; have u1 := lt151 _ hs; omega); (have u0 := own155 _ hs; have u1 := lt154 _ hs; omega))
 replace hb47 := hb47.keep hk160 (fun hs => by rcases hs with hs | hs; (have u0 := own152 _ hs; have u1 := lt151 _ hs; omega); (have u0 := own155 _ hs; have u1 := lt154 _ hs; omega))
 replace hb125_130 := hb125_130.keep hk160 (fun hs => by rcases hs with hs | hs; (have u0 := own152 _ hs; have u1 := lt151 _ hs; omega); (have u0 := own155 _ hs; have u1 := lt154 _ hs; omega))
 replace hK0 := Keep.fresh hK0 hk160 (by intro i hi hs; first | exact hs | (rcases hs with hs | hs; (have u0 := own152 i hs; have u1 := lt151 i hs; omega); (have u0 := own155 i hs; have u1 := lt154 i hs; omega)))
 replace ho105 := ho105.keep hk160 (fun q hq hs => by rcases hs with hs | hs; exact (fun q h1 h2 => dis153 q h2 h1) q hq hs; exact (fun q h1 h2 => dis156 q h2 h1) q hq hs)
 have own170 : ∀ q, F161 q → w30.heap.size ≤ q ∧ q ≠ b8 ∧ q ≠ b30 ∧ q ≠ b36 ∧ q ≠ b118 ∧ q ≠ b125 := fun q hq => by rcases hfr163 q hq with h | h; (have h1 := own152 q h; have h2 := lt151 q h; omega); omega
 have lt169 := VotT.lt ho162
 have dis171 : ∀ q, F161 q → ¬ F104 q := fun q h1 h2 => by rcases hfr163 q h1 with h | h; exact dis153 q h h2; (have h4 := lt112 q h2; omega)
 have own173 : ∀ q, F164 q → w30.heap.size ≤ q ∧ q ≠ b8 ∧ q ≠ b30 ∧ q ≠ b36 ∧ q ≠ b118 ∧ q ≠ b125 := fun q hq => by rcases hfr166 q hq with h | h; (have h1 := own155 q h; have h2 := lt154 q h; omega); omega
 have lt172 := Led.lt ho165
 have dis174 : ∀ q, F164 q → ¬ F104 q := fun q h1 h2 => by rcases hfr166 q h1 with h | h; exact dis156 q h h2; (have h4 := lt112 q h2; omega)
 replace ho105 : Rfr F104 w159 r37 gg38 [faT] fa2.rs := ho105
 replace ho162 : VotT F161 w159 v39 fa2.s := ho162
 replace ho165 : Led F164 w159 l40 fa2.xs fa2.cs := ho165
 refine Gp_ [(0, nt stop), (1, nt again), (5, pt b8), (6, pt b36), (8, pt b125), (79, .bool false), (89, nt (RW.votE fa1 6 0 (Vt.mk 1 true 2 900 0 0)))] <| Gq_ (u := nt (RW.votE fa1 6 0 (Vt.mk 1 true 2 900 0 0))) (v := nt 0) 89 (by rw [show RW.votE fa1 6 0 (Vt.mk 1 true 2 900 0 0) = 0 from fa_votes.2]) <| Gn [] [0, 1, 5, 6, 8, 91] <| GI_end <| X_then <| Vf <| Vsk <| Vr <| On 1 [0, 1, 5, 6, 8, 9] <| Oe <| V_seq <| Vn [0, 1, 5, 6, 8, 9, 10] <| V_block <| Vp [(0, nt stop), (1, nt again), (5, pt b8), (6, pt b36), (8, pt b125), (9, nt 0), (10, nt 0)] <| V_loop (fun k wI e => ∃ i : Nat, ∃ Hk : Nat → Prop, ∃ Fk : Nat → Prop, ∃ Gk : Nat → Prop, (k + i = stop.toNat) ∧ (Blk wI b36 [pt l40, pt v39, pt r37, .pointer xv44, .pointer yv45, .pointer zv46, nt 0] 39) ∧ (Rfr Hk wI r37 gg38 [faT] (faS i).rs) ∧ (VotT Fk wI v39 (faS i).s) ∧ (Led Gk wI l40 (faS i).xs (faS i).cs) ∧ (∀ q, Hk q → w.heap.size ≤ q ∧ q ≠ b36 ∧ q ≠ b8 ∧ q ≠ b125) ∧ (∀ q, Fk q → w.heap.size ≤ q ∧ q ≠ b36 ∧ q ≠ b8 ∧ q ≠ b125) ∧ (∀ q, Gk q → w.heap.size ≤ q ∧ q ≠ b36 ∧ q ≠ b8 ∧ q ≠ b125) ∧ (∀ q, Hk q → ¬ Fk q) ∧ (∀ q, Hk q → ¬ Gk q) ∧ (∀ q, Fk q → ¬ Gk q) ∧ (Keep none_ w wI) ∧ (Blk wI b8 (Trk.cells { plainT with prepare := 0, decision := 20, confirm := 4 }) 27) ∧ (Blk wI b125 (Vt.cells (Vt.mk 1 false 6 900 0 0)) 67) ∧ (w.heap.size ≤ b8 ∧ b8 ≠ b36) ∧ (w.heap.size ≤ b125 ∧ b125 ≠ b36) ∧ e = [(0, nt stop), (1, nt again), (5, pt b8), (6, pt b36), (8, pt b125), (9, nt (i : Int)), (10, nt (i : Int))]) stop.toNat ⟨0, F104, F161, F164, by omega, hb47, ho105, ho162, ho165, (fun q hq => by have h1 := own113 q hq; have h2 := lt112 q hq; omega), (fun q hq => by have h1 := own170 q hq; have h2 := lt169 q hq; omega), (fun q hq => by have h1 := own173 q hq; have h2 := lt172 q hq; omega), (fun q h1 h2 => dis171 q h2 h1), (fun q h1 h2 => dis174 q h2 h1), hdis167, hK0, hb8_28, hb125_130, by omega, by omega, rfl⟩ ?_
 rintro k176 w175 _ ⟨i, Hk, Fk, Gk, hki, hbk, hRk, hVk, hLk, hHko, hFko, hGko, dkHF, dkHG, dkFG, hK0, hcb8, hcb125, hgeb8, hgeb125, rfl⟩
 have hb8lt := hcb8.lt
 have hb125lt := hcb125.lt
 have hb36lt := hbk.lt
 have hzhK0 := Keep.size hK0
 have ltHk := Rfr.lt hRk
 have ltFk := VotT.lt hVk
 have ltGk := Led.lt hLk
 refine V_seq <| Vn [0, 1, 5, 6, 8, 9, 10, 94] <| Vi ((i : Int) < stop) (fun hc178 => ?_) (fun hc178 => ?_)
 ·
  refine Vsk <| V_seq <| V_block <| Vr ?_
  have hw179 : IntKind.i64.wrap ((i : Int) + 1) = ((i + 1 : Nat) : Int) := (wrap64_id (by omega) (by omega)).trans (by omega)
  refine On 2 [0, 1, 5, 6, 8, 10, 98] <| Oq (u := nt (IntKind.i64.wrap ((i : Int) + 1))) (v := nt ((i + 1 : Nat) : Int)) 98 (by rw [hw179]) <| Oen [0, 1, 5, 6, 8, 9, 10] <| V_draws (acts [13]) none_ [[0, 1, 2, 3, 4, 5, 6, 7, 8, 9, 10, 11, 12, 13]] (by kernel_rfl) (by repeat first | exact (by first | exact sure_body (by rintro _ _ ⟨_, _, h, _⟩; exact ⟨_, h⟩) | exact sure_body (by rintro _ _ ⟨_, _, _, _, _, _, _, _, _, _, _, h, _⟩; exact ⟨_, h⟩) | exact sure_body (by rintro _ _ ⟨h, _⟩; exact ⟨_, h⟩)) | refine sure_then ?_ | refine sure_block ?_ | refine sure_join ?_) (by kernel_rfl) ?_
  intro w181 hk180 he182 L hL183
  have hsz184 := Keep.size hk180
  replace hcb8 := hcb8.k0 hk180
  replace hcb125 := hcb125.k0 hk180
  replace hbk := hbk.k0 hk180
  replace hRk := hRk.keep hk180 nk
  replace hVk := hVk.keep hk180 nk
  replace hLk := hLk.keep hk180 nk
  replace hK0 := hK0.tn hk180
  have qhbk := hbk
  have K185 : Keep none_ w181 w181 := Keep.refl _ _
  obtain rfl := List.mem_singleton.1 hL183
  refine Gn [3, 4, 5, 6, 7, 8, 9, 10, 11, 12, 13] [0, 1, 5, 6, 8, 9, 10, 101] <| Mr 2 (pt r37) qhbk <| Gn [7, 8, 9, 10, 11, 12, 13] [0, 1, 5, 6, 8, 9, 10, 102, 105] <| Mr 0 (pt l40) qhbk <| Gn [11, 12, 13] [0, 1, 5, 6, 8, 9, 10, 102, 106, 109] <| Mr 1 (pt v39) qhbk <| Gn [13] [0, 1, 5, 6, 8, 9, 10, 102, 106, 110, 111] <| GI_final 13 (by kernel_rfl) (by kernel_rfl) <| Kg (service_spec Hk r37 gg38 [faT] (faS i).rs Fk v39 (faS i).s Gk l40 (faS i).xs (faS i).cs ((i + 1 : Nat) : Int) _ hRk hVk hLk dkHF dkHG dkFG) ?_
  rintro _ w188 ⟨A190, cap190, rfl, hA190, ow190, ⟨F191, F194, ho192, ho195, hfr193, hfr196, hdis197, dA198, dA199⟩, hk189⟩
  refine ⟨_, rfl, ?_⟩
  have hsz200 := Keep.size hk189
  replace hcb8 := hcb8.keep hk189 (fun hs => by rcases hs with hs | hs; (have u9 : _ = gg38 := hs; have u0 := hHko _ (Rfr.atg hRk); have u1 := ltHk _ (Rfr.atg hRk); omega); (have u0 := hFko _ hs; have u1 := ltFk _ hs; omega))
  replace hcb125 := hcb125.keep hk189 (fun hs => by rcases hs with hs | hs; (have u9 : _ = gg38 := hs; have u0 := hHko _ (Rfr.atg hRk); have u1 := ltHk _ (Rfr.atg hRk); omega); (have u0 := hFko _ hs; have u1 := ltFk _ hs; omega))
  replace hbk := hbk.keep hk189 (fun hs => by rcases hs with hs | hs; (have u9 : _ = gg38 := hs; have u0 := hHko _ (Rfr.atg hRk); have u1 := ltHk _ (Rfr.atg hRk); omega); (have u0 := hFko _ hs; have u1 := ltFk _ hs; omega))
  replace hLk := hLk.keep hk189 (fun q hq hs => by rcases hs with hs | hs; exact (fun q h1 h2 => dkHG q h2 h1) q hq (by rw [show q = gg38 from hs]; exact (Rfr.atg hRk)); exact (fun q h1 h2 => dkFG q h2 h1) q hq hs)
  replace hK0 := Keep.fresh hK0 hk189 (by intro i hi hs; first | exact hs | (rcases hs with hs | hs; (have u9 : _ = gg38 := hs; have u0 := hHko _ (Rfr.atg hRk); have u1 := ltHk _ (Rfr.atg hRk); omega); (have u0 := hFko i hs; have u1 := ltFk i hs; omega)))
  have own202 : ∀ q, F191 q → w.heap.size ≤ q ∧ q ≠ b8 ∧ q ≠ b125 ∧ q ≠ b36 := fun q hq => by rcases hfr193 q hq with h | h; (have h1 := hHko q h; have h2 := ltHk q h; omega); omega
  have lt201 := Rfr.lt ho192
  have dis203 : ∀ q, F191 q → ¬ Gk q := fun q h1 h2 => by rcases hfr193 q h1 with h | h; exact dkHG q h h2; (have h4 := ltGk q h2; omega)
  have own205 : ∀ q, F194 q → w.heap.size ≤ q ∧ q ≠ b8 ∧ q ≠ b125 ∧ q ≠ b36 := fun q hq => by rcases hfr196 q hq with h | h; (have h1 := hFko q h; have h2 := ltFk q h; omega); omega
  have lt204 := VotT.lt ho195
  have dis206 : ∀ q, F194 q → ¬ Gk q := fun q h1 h2 => by rcases hfr196 q h1 with h | h; exact dkFG q h h2; (have h4 := ltGk q h2; omega)
  replace ho192 : Rfr F191 w188 r37 gg38 [faT] (faS (i + 1)).rs := ho192
  replace ho195 : VotT F194 w188 v39 ((faS (i + 1)).s) := ho195
  replace hLk : Led Gk w188 l40 (faS (i + 1)).xs (faS (i + 1)).cs := hLk
  refine OI_end rfl <| X_block <| X_then <| V_region ?_
  have hw207 : IntKind.i64.wrap ((i : Int) + 1) = ((i + 1 : Nat) : Int) := (wrap64_id (by omega) (by omega)).trans (by omega)
  refine On 2 [0, 1, 5, 6, 8, 9, 96] <| Oq (u := nt (IntKind.i64.wrap ((i : Int) + 1))) (v := nt ((i + 1 : Nat) : Int)) 96 (by rw [hw207]) <| Os 3 [(0, nt stop), (1, nt again), (5, pt b8), (6, pt b36), (8, pt b125), (9, nt ((i + 1 : Nat) : Int)), (10, nt ((i + 1 : Nat) : Int))] <| OI_end rfl ?_
  exact V_again (k176 - 1) (by omega) [(0, nt stop), (1, nt again), (5, pt b8), (6, pt b36), (8, pt b125), (9, nt ((i + 1 : Nat) : Int)), (10, nt ((i + 1 : Nat) : Int))] rfl ⟨i + 1, F191, F194, Gk, by omega, hbk, ho192, ho195, hLk, (fun q hq => by have h1 := own202 q hq; have h2 := lt201 q hq; omega), (fun q hq => by have h1 := own205 q hq; have h2 := lt204 q hq; omega), (fun q hq => by have h1 := hGko q hq; have h2 := ltGk q hq; omega), hdis197, dis203, dis206, hK0, hcb8, hcb125, by omega, by omega, rfl⟩
 obtain rfl : stop = (i : Int) := by omega
 refine V_exit <| X_exit_then <| X_exit_then <| X_exit_here <| X_then <| V_seq <| V_seq <| V_draws (acts [9]) none_ [[0, 1, 2, 3, 4, 5, 6, 7, 8, 9, 10]] (by kernel_rfl) (by repeat first | exact (by first | exact sure_body (by rintro _ _ ⟨_, _, h, _⟩; exact ⟨_, h⟩) | exact sure_body (by rintro _ _ ⟨_, _, _, _, _, _, _, _, _, _, _, h, _⟩; exact ⟨_, h⟩) | exact sure_body (by rintro _ _ ⟨h, _⟩; exact ⟨_, h⟩)) | refine sure_then ?_ | refine sure_block ?_ | refine sure_join ?_) (by kernel_rfl) ?_
 intro w209 hk208 he210 L hL211
 have hsz212 := Keep.size hk208
 replace hcb8 := hcb8.k0 hk208
 replace hcb125 := hcb125.k0 hk208
 replace hbk := hbk.k0 hk208
 replace hRk := hRk.keep hk208 nk
 replace hVk := hVk.keep hk208 nk
 replace hLk := hLk.keep hk208 nk
 replace hK0 := hK0.tn hk208
 have qhcb125 := hcb125
 have qhbk := hbk
 have K213 : Keep none_ w209 w209 := Keep.refl _ _
 obtain rfl := List.mem_singleton.1 hL211
 refine Gn [3, 4, 5, 6, 7, 8, 9, 10] [0, 1, 5, 6, 8, 9, 115] <| Mr 1 (pt v39) qhbk <| Gn [7, 8, 9, 10] [0, 1, 5, 6, 8, 9, 116, 119] <| Gc0 32 (.tmp 119) 0 (pt l40) (some 120) qhbk rfl <| Ga 67 (.tmp 8) 0 (Vt.cells (Vt.mk 1 false 6 900 0 0)) (some 121) 6 qhcb125 id (take_all (Vt.len _)) (Vt.len _) ?_
 have hfv : RW.votE (faS i) 3 0 (Vt.mk 1 false 6 900 0 0) = 0 := (fa3 (j := i) (k := 1) (by omega) (by omega)).1
 refine Gk0 (kl 31 #[(.tmp 116), (.tmp 120), (.const (nt 3)), (.const (nt 0)), (.tmp 121)] #[33, 32, 3, 3, 67]) 31 #[pt v39, pt l40, nt 3, nt 0, .agg (Vt.cells (Vt.mk 1 false 6 900 0 0)).toArray] (some 122) (vote_spec Fk Gk v39 l40 (faS i).s (faS i).xs (faS i).cs 3 0 (Vt.mk 1 false 6 900 0 0) _ hVk hLk dkFG (by first | exact fa_cs3 (by omega) | exact (by decide : ([] : List Ci).length < 100000) | exact fa_l1 | exact fa_l0)) ?_
 rintro _ w216 ⟨rfl, ⟨F218, F221, ho219, ho222, hfr220, hfr223, hdis224⟩, hk217⟩
 refine ⟨_, rfl, ?_⟩
 have hsz225 := Keep.size hk217
 replace hcb8 := hcb8.keep hk217 (fun hs => by rcases hs with hs | hs; (have u0 := hFko _ hs; have u1 := ltFk _ hs; omega); (have u0 := hGko _ hs; have u1 := ltGk _ hs; omega))
 replace hbk := hbk.keep hk217 (fun hs => by rcases hs with hs | hs; (have u0 := hFko _ hs; have u1 := ltFk _ hs; omega); (have u0 := hGko _ hs; have u1 := ltGk _ hs; omega))
 replace hRk := hRk.keep hk217 (fun q hq hs => by rcases hs with hs | hs; exact dkHF q hq hs; exact dkHG q hq hs)
 replace hK0 := Keep.fresh hK0 hk217 (by intro i hi hs; first | exact hs | (rcases hs with hs | hs; (have u0 := hFko i hs; have u1 := ltFk i hs; omega); (have u0 := hGko i hs; have u1 := ltGk i hs; omega)))
 have own227 : ∀ q, F218 q → w.heap.size ≤ q ∧ q ≠ b8 ∧ q ≠ b125 ∧ q ≠ b36 := fun q hq => by rcases hfr220 q hq with h | h; (have h1 := hFko q h; have h2 := ltFk q h; omega); omega
 have lt226 := VotT.lt ho219
 have dis228 : ∀ q, F218 q → ¬ Hk q := fun q h1 h2 => by rcases hfr220 q h1 with h | h; exact (fun q h1 h2 => dkHF q h2 h1) q h h2; (have h4 := ltHk q h2; omega)
 have own230 : ∀ q, F221 q → w.heap.size ≤ q ∧ q ≠ b8 ∧ q ≠ b125 ∧ q ≠ b36 := fun q hq => by rcases hfr223 q hq with h | h; (have h1 := hGko q h; have h2 := ltGk q h; omega); omega
 have lt229 := Led.lt ho222
 have dis231 : ∀ q, F221 q → ¬ Hk q := fun q h1 h2 => by rcases hfr223 q h1 with h | h; exact (fun q h1 h2 => dkHG q h2 h1) q h h2; (have h4 := ltHk q h2; omega)
 replace hRk : Rfr Hk w216 r37 gg38 [faT] (faB i).rs := hRk
 replace ho219 : VotT F218 w216 v39 ((faB i).s) := ho219
 replace ho222 : Led F221 w216 l40 (faB i).xs (faB i).cs := ho222
 refine Gp_ [(0, nt (i : Int)), (1, nt again), (5, pt b8), (6, pt b36), (9, nt (i : Int)), (122, nt (RW.votE (faS i) 3 0 (Vt.mk 1 false 6 900 0 0)))] <| Gq_ (u := nt (RW.votE (faS i) 3 0 (Vt.mk 1 false 6 900 0 0))) (v := nt 0) 122 (by rw [hfv]) <| Gn [] [0, 1, 5, 6, 9, 123] <| GI_end <| X_then <| Vf <| Vsk <| V_seq <| Vn [0, 1, 5, 6, 9, 11] <| V_block <| Vp [(0, nt (i : Int)), (1, nt again), (5, pt b8), (6, pt b36), (9, nt (i : Int)), (11, nt 0)] <| V_loop (fun k wI e => ∃ j : Nat, ∃ Hk : Nat → Prop, ∃ Fk : Nat → Prop, ∃ Gk : Nat → Prop, (k + j = again.toNat) ∧ (Blk wI b36 [pt l40, pt v39, pt r37, .pointer xv44, .pointer yv45, .pointer zv46, nt 0] 39) ∧ (Rfr Hk wI r37 gg38 [faT] (faR i j).rs) ∧ (VotT Fk wI v39 (faR i j).s) ∧ (Led Gk wI l40 (faR i j).xs (faR i j).cs) ∧ (∀ q, Hk q → w.heap.size ≤ q ∧ q ≠ b36 ∧ q ≠ b8) ∧ (∀ q, Fk q → w.heap.size ≤ q ∧ q ≠ b36 ∧ q ≠ b8) ∧ (∀ q, Gk q → w.heap.size ≤ q ∧ q ≠ b36 ∧ q ≠ b8) ∧ (∀ q, Hk q → ¬ Fk q) ∧ (∀ q, Hk q → ¬ Gk q) ∧ (∀ q, Fk q → ¬ Gk q) ∧ (Keep none_ w wI) ∧ (Blk wI b8 (Trk.cells { plainT with prepare := 0, decision := 20, confirm := 4 }) 27) ∧ (w.heap.size ≤ b8 ∧ b8 ≠ b36) ∧ e = [(0, nt (i : Int)), (1, nt again), (5, pt b8), (6, pt b36), (9, nt ((i + j : Nat) : Int)), (11, nt (j : Int))]) again.toNat ⟨0, Hk, F218, F221, by omega, hbk, hRk, ho219, ho222, (fun q hq => by have h1 := hHko q hq; have h2 := ltHk q hq; omega), (fun q hq => by have h1 := own227 q hq; have h2 := lt226 q hq; omega), (fun q hq => by have h1 := own230 q hq; have h2 := lt229 q hq; omega), (fun q h1 h2 => dis228 q h2 h1), (fun q h1 h2 => dis231 q h2 h1), hdis224, hK0, hcb8, by omega, rfl⟩ ?_
 rintro k233 w232 _ ⟨j, Hk, Fk, Gk, hkj, hbk, hRk, hVk, hLk, hHko, hFko, hGko, dkHF, dkHG, dkFG, hK0, hcb8, hgeb8, rfl⟩
 have hb8lt := hcb8.lt
 have hb36lt := hbk.lt
 have hzhK0 := Keep.size hK0
 have ltHk := Rfr.lt hRk
 have ltFk := VotT.lt hVk
 have ltGk := Led.lt hLk
 refine V_seq <| Vn [0, 1, 5, 6, 9, 11, 126] <| Vi ((j : Int) < again) (fun hc235 => ?_) (fun hc235 => ?_)
 ·
  refine Vsk <| V_seq <| V_block <| Vr ?_
  have hw236 : IntKind.i64.wrap (((i + j : Nat) : Int) + 1) = ((i + j + 1 : Nat) : Int) := (wrap64_id (by omega) (by omega)).trans (by omega)
  refine On 2 [0, 1, 5, 6, 11, 130] <| Oq (u := nt (IntKind.i64.wrap (((i + j : Nat) : Int) + 1))) (v := nt ((i + j + 1 : Nat) : Int)) 130 (by rw [hw236]) <| Oen [0, 1, 5, 6, 9, 11] <| V_draws (acts [13]) none_ [[0, 1, 2, 3, 4, 5, 6, 7, 8, 9, 10, 11, 12, 13]] (by kernel_rfl) (by repeat first | exact (by first | exact sure_body (by rintro _ _ ⟨_, _, h, _⟩; exact ⟨_, h⟩) | exact sure_body (by rintro _ _ ⟨_, _, _, _, _, _, _, _, _, _, _, h, _⟩; exact ⟨_, h⟩) | exact sure_body (by rintro _ _ ⟨h, _⟩; exact ⟨_, h⟩)) | refine sure_then ?_ | refine sure_block ?_ | refine sure_join ?_) (by kernel_rfl) ?_
  intro w238 hk237 he239 L hL240
  have hsz241 := Keep.size hk237
  replace hcb8 := hcb8.k0 hk237
  replace hbk := hbk.k0 hk237
  replace hRk := hRk.keep hk237 nk
  replace hVk := hVk.keep hk237 nk
  replace hLk := hLk.keep hk237 nk
  replace hK0 := hK0.tn hk237
  have qhbk := hbk
  have K242 : Keep none_ w238 w238 := Keep.refl _ _
  obtain rfl := List.mem_singleton.1 hL240
  refine Gn [3, 4, 5, 6, 7, 8, 9, 10, 11, 12, 13] [0, 1, 5, 6, 9, 11, 133] <| Mr 2 (pt r37) qhbk <| Gn [7, 8, 9, 10, 11, 12, 13] [0, 1, 5, 6, 9, 11, 134, 137] <| Mr 0 (pt l40) qhbk <| Gn [11, 12, 13] [0, 1, 5, 6, 9, 11, 134, 138, 141] <| Mr 1 (pt v39) qhbk <| Gn [13] [0, 1, 5, 6, 9, 11, 134, 138, 142, 143] <| GI_final 13 (by kernel_rfl) (by kernel_rfl) <| Kg (service_spec Hk r37 gg38 [faT] (faR i j).rs Fk v39 (faR i j).s Gk l40 (faR i j).xs (faR i j).cs ((i + j + 1 : Nat) : Int) _ hRk hVk hLk dkHF dkHG dkFG) ?_
  rintro _ w245 ⟨A247, cap247, rfl, hA247, ow247, ⟨F248, F251, ho249, ho252, hfr250, hfr253, hdis254, dA255, dA256⟩, hk246⟩
  refine ⟨_, rfl, ?_⟩
  have hsz257 := Keep.size hk246
  replace hcb8 := hcb8.keep hk246 (fun hs => by rcases hs with hs | hs; (have u9 : _ = gg38 := hs; have u0 := hHko _ (Rfr.atg hRk); have u1 := ltHk _ (Rfr.atg hRk); omega); (have u0 := hFko _ hs; have u1 := ltFk _ hs; omega))
  replace hbk := hbk.keep hk246 (fun hs => by rcases hs with hs | hs; (have u9 : _ = gg38 := hs; have u0 := hHko _ (Rfr.atg hRk); have u1 := ltHk _ (Rfr.atg hRk); omega); (have u0 := hFko _ hs; have u1 := ltFk _ hs; omega))
  replace hLk := hLk.keep hk246 (fun q hq hs => by rcases hs with hs | hs; exact (fun q h1 h2 => dkHG q h2 h1) q hq (by rw [show q = gg38 from hs]; exact (Rfr.atg hRk)); exact (fun q h1 h2 => dkFG q h2 h1) q hq hs)
  replace hK0 := Keep.fresh hK0 hk246 (by intro i hi hs; first | exact hs | (rcases hs with hs | hs; (have u9 : _ = gg38 := hs; have u0 := hHko _ (Rfr.atg hRk); have u1 := ltHk _ (Rfr.atg hRk); omega); (have u0 := hFko i hs; have u1 := ltFk i hs; omega)))
  have own259 : ∀ q, F248 q → w.heap.size ≤ q ∧ q ≠ b8 ∧ q ≠ b36 := fun q hq => by rcases hfr250 q hq with h | h; (have h1 := hHko q h; have h2 := ltHk q h; omega); omega
  have lt258 := Rfr.lt ho249
  have dis260 : ∀ q, F248 q → ¬ Gk q := fun q h1 h2 => by rcases hfr250 q h1 with h | h; exact dkHG q h h2; (have h4 := ltGk q h2; omega)
  have own262 : ∀ q, F251 q → w.heap.size ≤ q ∧ q ≠ b8 ∧ q ≠ b36 := fun q hq => by rcases hfr253 q hq with h | h; (have h1 := hFko q h; have h2 := ltFk q h; omega); omega
  have lt261 := VotT.lt ho252
  have dis263 : ∀ q, F251 q → ¬ Gk q := fun q h1 h2 => by rcases hfr253 q h1 with h | h; exact dkFG q h h2; (have h4 := ltGk q h2; omega)
  replace ho249 : Rfr F248 w245 r37 gg38 [faT] (faR i (j + 1)).rs := ho249
  replace ho252 : VotT F251 w245 v39 ((faR i (j + 1)).s) := ho252
  replace hLk : Led Gk w245 l40 (faR i (j + 1)).xs (faR i (j + 1)).cs := hLk
  refine OI_end rfl <| X_block <| X_then <| V_region ?_
  have hw264 : IntKind.i64.wrap ((j : Int) + 1) = ((j + 1 : Nat) : Int) := (wrap64_id (by omega) (by omega)).trans (by omega)
  refine On 2 [0, 1, 5, 6, 9, 128] <| Oq (u := nt (IntKind.i64.wrap ((j : Int) + 1))) (v := nt ((j + 1 : Nat) : Int)) 128 (by rw [hw264]) <| Os 3 [(0, nt (i : Int)), (1, nt again), (5, pt b8), (6, pt b36), (9, nt ((i + j + 1 : Nat) : Int)), (11, nt ((j + 1 : Nat) : Int))] <| OI_end rfl ?_
  exact V_again (k233 - 1) (by omega) [(0, nt (i : Int)), (1, nt again), (5, pt b8), (6, pt b36), (9, nt ((i + j + 1 : Nat) : Int)), (11, nt ((j + 1 : Nat) : Int))] rfl ⟨j + 1, F248, F251, Gk, by omega, hbk, ho249, ho252, hLk, (fun q hq => by have h1 := own259 q hq; have h2 := lt258 q hq; omega), (fun q hq => by have h1 := own262 q hq; have h2 := lt261 q hq; omega), (fun q hq => by have h1 := hGko q hq; have h2 := ltGk q hq; omega), hdis254, dis260, dis263, hK0, hcb8, by omega, rfl⟩
 obtain rfl : again = (j : Int) := by omega
 obtain ⟨hf1, hf2, hf3, hf4, hf5, hf6, hf7, hf8, hf9⟩ := fa3 (j := i) (k := j) (by omega) (by omega)
 refine V_exit <| X_exit_then <| X_exit_then <| X_exit_here <| X_then <| Vr <| On 3 [0, 1, 5, 6, 9, 148] <| Lr 2 (pt r37) hbk <| Kk (rget_spec Hk r37 gg38 [faT] (faR i j).rs 0 _ hRk) fun w265 hk266 _ => ?_
 replace hRk := hRk.keep hk266 nk
 replace hVk := hVk.keep hk266 nk
 replace hLk := hLk.keep hk266 nk
 replace hK0 := hK0.tn hk266
 refine On 8 [0, 1, 5, 6, 9, 151, 152] <| Al 57 (.agg (Rfm.cells Rfm.zero).toArray) (Rfm.cells Rfm.zero) ?_
 intro b268 w268 e268 hb268 k268 z268
 have hsz269 := Keep.size k268
 replace hcb8 := hcb8.k0 (hk266.tr k268)
 replace hbk := hbk.k0 (hk266.tr k268)
 replace hRk := hRk.keep k268 nk
 replace hVk := hVk.keep k268 nk
 replace hLk := hLk.keep k268 nk
 replace hK0 := hK0.tn k268
 have hb268lt := hb268.lt
 refine Sg 0 (Rfm.cells (getA (faR i j).rs 0)) hb268 (Rfm.len _) (Rfm.one _) ?_
 intro w270 hb268_273 hk271 hz272
 replace hb268_273 : Blk w270 b268 (Rfm.cells (getA (faR i j).rs 0)) 57 := (Blk.eqL (Rfm.over _ _) hb268_273)
 have hsz274 := Keep.size hk271
 replace hcb8 := hcb8.k1 hk271
 replace hbk := hbk.k1 hk271
 replace hRk := hRk.keep hk271 (fun q hq hs => by have hs : q = b268 := hs; have g0 := hHko q hq; have g1 := ltHk q hq; omega)
 replace hVk := hVk.keep hk271 (fun q hq hs => by have hs : q = b268 := hs; have g0 := hFko q hq; have g1 := ltFk q hq; omega)
 replace hLk := hLk.keep hk271 (fun q hq hs => by have hs : q = b268 := hs; have g0 := hGko q hq; have g1 := ltGk q hq; omega)
 replace hK0 := Keep.fr hK0 hk271
 refine On 11 [0, 1, 5, 6, 9, 12] <| Oe <| V_seq <| Vr <| On 1 [0, 1, 5, 6, 9, 12, 153] <| Lr 0 (nt ((getA (faR i j).rs 0).state)) hb268_273 <| On 4 [0, 1, 5, 6, 9, 12, 156] <| Oq (u := .bool (!(decide ((getA (faR i j).rs 0).state = 1)))) (v := .bool false) 156 (by rw [decide_eq_true (show ((getA (faR i j).rs 0).state = 1) from hf2)]; rfl) <| On 5 [0, 1, 5, 6, 9, 156, 157] <| Lr 40 (nt ((getA (faR i j).rs 0).till)) hb268_273 <| On 9 [0, 1, 5, 6, 9, 161] <| Oq (u := .bool (!(decide ((getA (faR i j).rs 0).till = -1)))) (v := .bool false) 161 (by rw [decide_eq_true (show ((getA (faR i j).rs 0).till = -1) from hf3)]; rfl) <| On 12 [0, 1, 5, 6, 9, 161, 164] <| Lr 1 (pt v39) hbk <| On 14 [0, 1, 5, 6, 9, 161, 165, 166] <| Ok (kl 33 #[(.tmp 165), (.const (nt 3)), (.const (nt 0)), (.tmp 166)] #[33, 3, 3, 3]) 33 #[pt v39, nt 3, nt 0, nt ((i + j : Nat) : Int)] (some 167) (unvote_specT Fk v39 (faR i j).s 3 0 ((i + j : Nat) : Int) _ hVk) ?_
 rintro _ w279 ⟨rfl, ⟨F281, ho282, hfr283⟩, hk280⟩
 refine ⟨_, rfl, ?_⟩
 have hsz284 := Keep.size hk280
 replace hcb8 := hcb8.keep hk280 (fun hs => by have h1 := hFko _ hs; have h2 := ltFk _ hs; omega)
 replace hbk := hbk.keep hk280 (fun hs => by have h1 := hFko _ hs; have h2 := ltFk _ hs; omega)
 replace hRk := hRk.keep hk280 (fun q hq hs => (fun q h1 h2 => dkHF q h2 h1) q hs hq)
 replace hLk := hLk.keep hk280 (fun q hq hs => dkFG q hs hq)
 replace hK0 := Keep.fresh hK0 hk280 (by intro i hi hs; first | exact hs | (exfalso; have h1 := hFko i hs; have h2 := ltFk i hs; omega) | (have h1 := hFko i hs; have h2 := ltFk i hs; show _ ∨ _; omega))
 have own286 : ∀ q, F281 q → w.heap.size ≤ q ∧ q ≠ b8 ∧ q ≠ b36 ∧ q ≠ b268 := fun q hq => by rcases hfr283 q hq with h | h; (have h1 := hFko q h; have h2 := ltFk q h; omega); omega
 have lt285 := VotT.lt ho282
 have dis287 : ∀ q, F281 q → ¬ Hk q := fun q h1 h2 => by rcases hfr283 q h1 with h | h; exact (fun q h1 h2 => dkHF q h2 h1) q h h2; (have h4 := ltHk q h2; omega)
 have dis288 : ∀ q, F281 q → ¬ Gk q := fun q h1 h2 => by rcases hfr283 q h1 with h | h; exact dkFG q h h2; (have h4 := ltGk q h2; omega)
 replace hRk : Rfr Hk w279 r37 gg38 [faT] (faU i j).rs := hRk
 replace ho282 : VotT F281 w279 v39 ((faU i j).s) := ho282
 replace hLk : Led Gk w279 l40 (faU i j).xs (faU i j).cs := hLk
 refine Op_ [(0, nt (i : Int)), (1, nt (j : Int)), (5, pt b8), (6, pt b36), (9, nt ((i + j : Nat) : Int)), (161, .bool false), (167, nt (unvE (faR i j).s 3 0))] <| Oq (u := nt (unvE (faR i j).s 3 0)) (v := nt 0) 167 (by rw [hf4]) <| Oen [0, 1, 5, 6, 9, 169] <| Vf <| Vsk <| Vr ?_
 have hw289 : IntKind.i64.wrap (((i + j : Nat) : Int) + 1) = ((i + j + 1 : Nat) : Int) := (wrap64_id (by omega) (by omega)).trans (by omega)
 refine On 2 [0, 1, 5, 6, 171] <| Oq (u := nt (IntKind.i64.wrap (((i + j : Nat) : Int) + 1))) (v := nt ((i + j + 1 : Nat) : Int)) 171 (by rw [hw289]) <| Oen [0, 1, 5, 6, 9] <| V_seq <| V_draws (acts [13]) none_ [[0, 1, 2, 3, 4, 5, 6, 7, 8, 9, 10, 11, 12, 13]] (by kernel_rfl) (by repeat first | exact (by first | exact sure_body (by rintro _ _ ⟨_, _, h, _⟩; exact ⟨_, h⟩) | exact sure_body (by rintro _ _ ⟨_, _, _, _, _, _, _, _, _, _, _, h, _⟩; exact ⟨_, h⟩) | exact sure_body (by rintro _ _ ⟨h, _⟩; exact ⟨_, h⟩)) | refine sure_then ?_ | refine sure_block ?_ | refine sure_join ?_) (by kernel_rfl) ?_
 intro w291 hk290 he292 L hL293
 have hsz294 := Keep.size hk290
 replace hcb8 := hcb8.k0 hk290
 replace hbk := hbk.k0 hk290
 replace hRk := hRk.keep hk290 nk
 replace hLk := hLk.keep hk290 nk
 replace hK0 := hK0.tn hk290
 replace ho282 := ho282.keep hk290 nk
 have qhbk := hbk
 have K295 : Keep none_ w291 w291 := Keep.refl _ _
 obtain rfl := List.mem_singleton.1 hL293
 refine Gn [3, 4, 5, 6, 7, 8, 9, 10, 11, 12, 13] [0, 1, 5, 6, 9, 174] <| Mr 2 (pt r37) qhbk <| Gn [7, 8, 9, 10, 11, 12, 13] [0, 1, 5, 6, 9, 175, 178] <| Mr 0 (pt l40) qhbk <| Gn [11, 12, 13] [0, 1, 5, 6, 9, 175, 179, 182] <| Mr 1 (pt v39) qhbk <| Gn [13] [0, 1, 5, 6, 9, 175, 179, 183, 184] <| GI_final 13 (by kernel_rfl) (by kernel_rfl) <| Kg (service_spec Hk r37 gg38 [faT] (faU i j).rs F281 v39 (faU i j).s Gk l40 (faU i j).xs (faU i j).cs ((i + j + 1 : Nat) : Int) _ hRk ho282 hLk (fun q h1 h2 => dis287 q h2 h1) dkHG dis288) ?_
 rintro _ w298 ⟨A300, cap300, rfl, hA300, ow300, ⟨F301, F304, ho302, ho305, hfr303, hfr306, hdis307, dA308, dA309⟩, hk299⟩
 refine ⟨_, rfl, ?_⟩
 have hsz310 := Keep.size hk299
 replace hcb8 := hcb8.keep hk299 (fun hs => by rcases hs with hs | hs; (have u9 : _ = gg38 := hs; have u0 := hHko _ (Rfr.atg hRk); have u1 := ltHk _ (Rfr.atg hRk); omega); (have u0 := own286 _ hs; have u1 := lt285 _ hs; omega))
 replace hbk := hbk.keep hk299 (fun hs => by rcases hs with hs | hs; (have u9 : _ = gg38 := hs; have u0 := hHko _ (Rfr.atg hRk); have u1 := ltHk _ (Rfr.atg hRk); omega); (have u0 := own286 _ hs; have u1 := lt285 _ hs; omega))
 replace hLk := hLk.keep hk299 (fun q hq hs => by rcases hs with hs | hs; exact (fun q h1 h2 => dkHG q h2 h1) q hq (by rw [show q = gg38 from hs]; exact (Rfr.atg hRk)); exact (fun q h1 h2 => dis288 q h2 h1) q hq hs)
 replace hK0 := Keep.fresh hK0 hk299 (by intro i hi hs; first | exact hs | (rcases hs with hs | hs; (have u9 : _ = gg38 := hs; have u0 := hHko _ (Rfr.atg hRk); have u1 := ltHk _ (Rfr.atg hRk); omega); (have u0 := own286 i hs; have u1 := lt285 i hs; omega)))
 have own312 : ∀ q, F301 q → w.heap.size ≤ q ∧ q ≠ b8 ∧ q ≠ b36 ∧ q ≠ b268 := fun q hq => by rcases hfr303 q hq with h | h; (have h1 := hHko q h; have h2 := ltHk q h; omega); omega
 have lt311 := Rfr.lt ho302
 have dis313 : ∀ q, F301 q → ¬ Gk q := fun q h1 h2 => by rcases hfr303 q h1 with h | h; exact dkHG q h h2; (have h4 := ltGk q h2; omega)
 have own315 : ∀ q, F304 q → w.heap.size ≤ q ∧ q ≠ b8 ∧ q ≠ b36 ∧ q ≠ b268 := fun q hq => by rcases hfr306 q hq with h | h; (have h1 := own286 q h; have h2 := lt285 q h; omega); omega
 have lt314 := VotT.lt ho305
 have dis316 : ∀ q, F304 q → ¬ Gk q := fun q h1 h2 => by rcases hfr306 q h1 with h | h; exact dis288 q h h2; (have h4 := ltGk q h2; omega)
 replace ho302 : Rfr F301 w298 r37 gg38 [faT] (faD i j 0).rs := ho302
 replace ho305 : VotT F304 w298 v39 ((faD i j 0).s) := ho305
 replace hLk : Led Gk w298 l40 (faD i j 0).xs (faD i j 0).cs := hLk
 refine Oer <| On 3 [0, 1, 5, 6, 9, 189] <| Lr 2 (pt r37) hbk <| Kk (rget_spec F301 r37 gg38 [faT] (faD i j 0).rs 0 _ ho302) fun w317 hk318 _ => ?_
 replace hLk := hLk.keep hk318 nk
 replace hK0 := hK0.tn hk318
 replace ho302 := ho302.keep hk318 nk
 replace ho305 := ho305.keep hk318 nk
 refine On 8 [0, 1, 5, 6, 9, 192, 193] <| Al 57 (.agg (Rfm.cells Rfm.zero).toArray) (Rfm.cells Rfm.zero) ?_
 intro b320 w320 e320 hb320 k320 z320
 have hsz321 := Keep.size k320
 replace hcb8 := hcb8.k0 (hk318.tr k320)
 replace hbk := hbk.k0 (hk318.tr k320)
 replace hLk := hLk.keep k320 nk
 replace hK0 := hK0.tn k320
 replace ho302 := ho302.keep k320 nk
 replace ho305 := ho305.keep k320 nk
 have hb320lt := hb320.lt
 refine Sg 0 (Rfm.cells (getA (faD i j 0).rs 0)) hb320 (Rfm.len _) (Rfm.one _) ?_
 intro w322 hb320_325 hk323 hz324
 replace hb320_325 : Blk w322 b320 (Rfm.cells (getA (faD i j 0).rs 0)) 57 := (Blk.eqL (Rfm.over _ _) hb320_325)
 have hsz326 := Keep.size hk323
 replace hcb8 := hcb8.k1 hk323
 replace hbk := hbk.k1 hk323
 replace hLk := hLk.keep hk323 (fun q hq hs => by have hs : q = b320 := hs; have g0 := hGko q hq; have g1 := ltGk q hq; omega)
 replace hK0 := Keep.fr hK0 hk323
 replace ho302 := ho302.keep hk323 (fun q hq hs => by have hs : q = b320 := hs; have g0 := own312 q hq; have g1 := lt311 q hq; omega)
 replace ho305 := ho305.keep hk323 (fun q hq hs => by have hs : q = b320 := hs; have g0 := own315 q hq; have g1 := lt314 q hq; omega)
 refine On 11 [0, 1, 5, 6, 9, 14] <| Oe <| V_seq <| Vn [0, 1, 5, 6, 9, 14, 16] <| V_block <| Vp [(0, nt (i : Int)), (1, nt (j : Int)), (5, pt b8), (6, pt b36), (9, nt ((i + j + 1 : Nat) : Int)), (14, pt b320), (16, nt 0)] <| V_loop (fun k wI e => ∃ m : Nat, ∃ Hk : Nat → Prop, ∃ Fk : Nat → Prop, ∃ Gk : Nat → Prop, (k + m = 3) ∧ (Blk wI b36 [pt l40, pt v39, pt r37, .pointer xv44, .pointer yv45, .pointer zv46, nt 0] 39) ∧ (Rfr Hk wI r37 gg38 [faT] (faD i j m).rs) ∧ (VotT Fk wI v39 (faD i j m).s) ∧ (Led Gk wI l40 (faD i j m).xs (faD i j m).cs) ∧ (∀ q, Hk q → w.heap.size ≤ q ∧ q ≠ b36 ∧ q ≠ b8 ∧ q ≠ b320) ∧ (∀ q, Fk q → w.heap.size ≤ q ∧ q ≠ b36 ∧ q ≠ b8 ∧ q ≠ b320) ∧ (∀ q, Gk q → w.heap.size ≤ q ∧ q ≠ b36 ∧ q ≠ b8 ∧ q ≠ b320) ∧ (∀ q, Hk q → ¬ Fk q) ∧ (∀ q, Hk q → ¬ Gk q) ∧ (∀ q, Fk q → ¬ Gk q) ∧ (Keep none_ w wI) ∧ (Blk wI b8 (Trk.cells { plainT with prepare := 0, decision := 20, confirm := 4 }) 27) ∧ (Blk wI b320 (Rfm.cells (getA (faD i j 0).rs 0)) 57) ∧ (w.heap.size ≤ b8 ∧ b8 ≠ b36) ∧ (w.heap.size ≤ b320 ∧ b320 ≠ b36) ∧ e = [(0, nt (i : Int)), (1, nt (j : Int)), (5, pt b8), (6, pt b36), (9, nt ((i + j + 1 + m : Nat) : Int)), (14, pt b320), (16, nt (m : Int))]) 3 ⟨0, F301, F304, Gk, by omega, hbk, ho302, ho305, hLk, (fun q hq => by have h1 := own312 q hq; have h2 := lt311 q hq; omega), (fun q hq => by have h1 := own315 q hq; have h2 := lt314 q hq; omega), (fun q hq => by have h1 := hGko q hq; have h2 := ltGk q hq; omega), hdis307, dis313, dis316, hK0, hcb8, hb320_325, by omega, by omega, rfl⟩ ?_
 rintro k328 w327 _ ⟨m, Hk, Fk, Gk, hkm, hbk, hRk, hVk, hLk, hHko, hFko, hGko, dkHF, dkHG, dkFG, hK0, hcb8, hcb320, hgeb8, hgeb320, rfl⟩
 have hb8lt := hcb8.lt
 have hb320lt := hcb320.lt
 have hb36lt := hbk.lt
 have hzhK0 := Keep.size hK0
 have ltHk := Rfr.lt hRk
 have ltFk := VotT.lt hVk
 have ltGk := Led.lt hLk
 refine V_seq <| Vn [0, 1, 5, 6, 9, 14, 16, 195] <| Vi ((m : Int) < 3) (fun hc330 => ?_) (fun hc330 => ?_)
 ·
  refine Vsk <| V_seq <| V_block <| Vr ?_
  have hw331 : IntKind.i64.wrap (((i + j + 1 + m : Nat) : Int) + 1) = ((i + j + 1 + m + 1 : Nat) : Int) := (wrap64_id (by omega) (by omega)).trans (by omega)
  refine On 2 [0, 1, 5, 6, 14, 16, 199] <| Oq (u := nt (IntKind.i64.wrap (((i + j + 1 + m : Nat) : Int) + 1))) (v := nt ((i + j + 1 + m + 1 : Nat) : Int)) 199 (by rw [hw331]) <| Oen [0, 1, 5, 6, 9, 14, 16] <| V_seq <| V_draws (acts [13]) none_ [[0, 1, 2, 3, 4, 5, 6, 7, 8, 9, 10, 11, 12, 13, 14, 15]] (by kernel_rfl) (by repeat first | exact (by first | exact sure_body (by rintro _ _ ⟨_, _, h, _⟩; exact ⟨_, h⟩) | exact sure_body (by rintro _ _ ⟨_, _, _, _, _, _, _, _, _, _, _, h, _⟩; exact ⟨_, h⟩) | exact sure_body (by rintro _ _ ⟨h, _⟩; exact ⟨_, h⟩)) | refine sure_then ?_ | refine sure_block ?_ | refine sure_join ?_) (by kernel_rfl) ?_
  intro w333 hk332 he334 L hL335
  have hsz336 := Keep.size hk332
  replace hcb8 := hcb8.k0 hk332
  replace hcb320 := hcb320.k0 hk332
  replace hbk := hbk.k0 hk332
  replace hRk := hRk.keep hk332 nk
  replace hVk := hVk.keep hk332 nk
  replace hLk := hLk.keep hk332 nk
  replace hK0 := hK0.tn hk332
  have qhbk := hbk
  have K337 : Keep none_ w333 w333 := Keep.refl _ _
  obtain rfl := List.mem_singleton.1 hL335
  refine Gn [3, 4, 5, 6, 7, 8, 9, 10, 11, 12, 13, 14, 15] [0, 1, 5, 6, 9, 14, 16, 202] <| Mr 2 (pt r37) qhbk <| Gn [7, 8, 9, 10, 11, 12, 13, 14, 15] [0, 1, 5, 6, 9, 14, 16, 203, 206] <| Mr 0 (pt l40) qhbk <| Gn [11, 12, 13, 14, 15] [0, 1, 5, 6, 9, 14, 16, 203, 207, 210] <| Mr 1 (pt v39) qhbk <| Gn [13, 14, 15] [0, 1, 5, 6, 9, 14, 16, 203, 207, 211, 212] <| Gk0 (kl 22 #[(.tmp 203), (.tmp 207), (.tmp 211), (.tmp 212)] #[34, 32, 33, 3]) 22 #[pt r37, pt l40, pt v39, nt ((i + j + 1 + m + 1 : Nat) : Int)] (some 213) (service_spec Hk r37 gg38 [faT] (faD i j m).rs Fk v39 (faD i j m).s Gk l40 (faD i j m).xs (faD i j m).cs ((i + j + 1 + m + 1 : Nat) : Int) _ hRk hVk hLk dkHF dkHG dkFG) ?_
  rintro _ w340 ⟨A342, cap342, rfl, hA342, ow342, ⟨F343, F346, ho344, ho347, hfr345, hfr348, hdis349, dA350, dA351⟩, hk341⟩
  refine ⟨_, rfl, ?_⟩
  have hsz352 := Keep.size hk341
  replace hcb8 := hcb8.keep hk341 (fun hs => by rcases hs with hs | hs; (have u9 : _ = gg38 := hs; have u0 := hHko _ (Rfr.atg hRk); have u1 := ltHk _ (Rfr.atg hRk); omega); (have u0 := hFko _ hs; have u1 := ltFk _ hs; omega))
  replace hcb320 := hcb320.keep hk341 (fun hs => by rcases hs with hs | hs; (have u9 : _ = gg38 := hs; have u0 := hHko _ (Rfr.atg hRk); have u1 := ltHk _ (Rfr.atg hRk); omega); (have u0 := hFko _ hs; have u1 := ltFk _ hs; omega))
  replace hbk := hbk.keep hk341 (fun hs => by rcases hs with hs | hs; (have u9 : _ = gg38 := hs; have u0 := hHko _ (Rfr.atg hRk); have u1 := ltHk _ (Rfr.atg hRk); omega); (have u0 := hFko _ hs; have u1 := ltFk _ hs; omega))
  replace hLk := hLk.keep hk341 (fun q hq hs => by rcases hs with hs | hs; exact (fun q h1 h2 => dkHG q h2 h1) q hq (by rw [show q = gg38 from hs]; exact (Rfr.atg hRk)); exact (fun q h1 h2 => dkFG q h2 h1) q hq hs)
  replace hK0 := Keep.fresh hK0 hk341 (by intro i hi hs; first | exact hs | (rcases hs with hs | hs; (have u9 : _ = gg38 := hs; have u0 := hHko _ (Rfr.atg hRk); have u1 := ltHk _ (Rfr.atg hRk); omega); (have u0 := hFko i hs; have u1 := ltFk i hs; omega)))
  have own354 : ∀ q, F343 q → w.heap.size ≤ q ∧ q ≠ b8 ∧ q ≠ b320 ∧ q ≠ b36 := fun q hq => by rcases hfr345 q hq with h | h; (have h1 := hHko q h; have h2 := ltHk q h; omega); omega
  have lt353 := Rfr.lt ho344
  have dis355 : ∀ q, F343 q → ¬ Gk q := fun q h1 h2 => by rcases hfr345 q h1 with h | h; exact dkHG q h h2; (have h4 := ltGk q h2; omega)
  have own357 : ∀ q, F346 q → w.heap.size ≤ q ∧ q ≠ b8 ∧ q ≠ b320 ∧ q ≠ b36 := fun q hq => by rcases hfr348 q hq with h | h; (have h1 := hFko q h; have h2 := ltFk q h; omega); omega
  have lt356 := VotT.lt ho347
  have dis358 : ∀ q, F346 q → ¬ Gk q := fun q h1 h2 => by rcases hfr348 q h1 with h | h; exact dkFG q h h2; (have h4 := ltGk q h2; omega)
  replace ho344 : Rfr F343 w340 r37 gg38 [faT] (faD i j (m + 1)).rs := ho344
  replace ho347 : VotT F346 w340 v39 ((faD i j (m + 1)).s) := ho347
  replace hLk : Led Gk w340 l40 (faD i j (m + 1)).xs (faD i j (m + 1)).cs := hLk
  refine Gp_ [(0, nt (i : Int)), (1, nt (j : Int)), (5, pt b8), (6, pt b36), (9, nt ((i + j + 1 + m + 1 : Nat) : Int)), (14, pt b320), (16, nt (m : Int)), (213, .slice A342 ((rwEvs [faT] (faD i j m) ((i + j + 1 + m + 1 : Nat) : Int)).length) cap342)] <| Gq_ (u := .slice A342 ((rwEvs [faT] (faD i j m) ((i + j + 1 + m + 1 : Nat) : Int)).length) cap342) (v := .slice A342 0 cap342) 213 (by rw [show (rwEvs [faT] (faD i j m) ((i + j + 1 + m + 1 : Nat) : Int)) = ([] : List Evt) from (hf6 m (by omega))]; rfl) <| Gn [] [0, 1, 5, 6, 9, 14, 16, 215] <| GI_end <| X_then <| Vf <| V_skip <| X_block <| X_then <| V_region ?_
  have hw359 : IntKind.i64.wrap ((m : Int) + 1) = ((m + 1 : Nat) : Int) := (wrap64_id (by omega) (by omega)).trans (by omega)
  refine On 2 [0, 1, 5, 6, 9, 14, 197] <| Oq (u := nt (IntKind.i64.wrap ((m : Int) + 1))) (v := nt ((m + 1 : Nat) : Int)) 197 (by rw [hw359]) <| Os 3 [(0, nt (i : Int)), (1, nt (j : Int)), (5, pt b8), (6, pt b36), (9, nt ((i + j + 1 + m + 1 : Nat) : Int)), (14, pt b320), (16, nt ((m + 1 : Nat) : Int))] <| OI_end rfl ?_
  exact V_again (k328 - 1) (by omega) [(0, nt (i : Int)), (1, nt (j : Int)), (5, pt b8), (6, pt b36), (9, nt ((i + j + 1 + m + 1 : Nat) : Int)), (14, pt b320), (16, nt ((m + 1 : Nat) : Int))] rfl ⟨m + 1, F343, F346, Gk, by omega, hbk, ho344, ho347, hLk, (fun q hq => by have h1 := own354 q hq; have h2 := lt353 q hq; omega), (fun q hq => by have h1 := own357 q hq; have h2 := lt356 q hq; omega), (fun q hq => by have h1 := hGko q hq; have h2 := ltGk q hq; omega), hdis349, dis355, dis358, hK0, hcb8, hcb320, by omega, by omega, rfl⟩
 obtain rfl : m = 3 := by omega
 refine V_exit <| X_exit_then <| X_exit_then <| X_exit_here <| X_then <| Vr ?_
 have hw360 : IntKind.i64.wrap (((i + j + 1 + 3 : Nat) : Int) + 1) = ((i + j + 1 + 3 + 1 : Nat) : Int) := (wrap64_id (by omega) (by omega)).trans (by omega)
 refine On 2 [0, 1, 5, 6, 14, 217] <| Oq (u := nt (IntKind.i64.wrap (((i + j + 1 + 3 : Nat) : Int) + 1))) (v := nt ((i + j + 1 + 3 + 1 : Nat) : Int)) 217 (by rw [hw360]) <| Oen [0, 1, 5, 6, 9, 14] <| V_seq <| V_draws (acts [13]) none_ [[0, 1, 2, 3, 4, 5, 6, 7, 8, 9, 10, 11, 12, 13, 14]] (by kernel_rfl) (by repeat first | exact (by first | exact sure_body (by rintro _ _ ⟨_, _, h, _⟩; exact ⟨_, h⟩) | exact sure_body (by rintro _ _ ⟨_, _, _, _, _, _, _, _, _, _, _, h, _⟩; exact ⟨_, h⟩) | exact sure_body (by rintro _ _ ⟨h, _⟩; exact ⟨_, h⟩)) | refine sure_then ?_ | refine sure_block ?_ | refine sure_join ?_) (by kernel_rfl) ?_
 intro w362 hk361 he363 L hL364
 have hsz365 := Keep.size hk361
 replace hcb8 := hcb8.k0 hk361
 replace hcb320 := hcb320.k0 hk361
 replace hbk := hbk.k0 hk361
 replace hRk := hRk.keep hk361 nk
 replace hVk := hVk.keep hk361 nk
 replace hLk := hLk.keep hk361 nk
 replace hK0 := hK0.tn hk361
 have qhbk := hbk
 have K366 : Keep none_ w362 w362 := Keep.refl _ _
 obtain rfl := List.mem_singleton.1 hL364
 refine Gn [3, 4, 5, 6, 7, 8, 9, 10, 11, 12, 13, 14] [0, 1, 5, 6, 9, 14, 220] <| Mr 2 (pt r37) qhbk <| Gn [7, 8, 9, 10, 11, 12, 13, 14] [0, 1, 5, 6, 9, 14, 221, 224] <| Mr 0 (pt l40) qhbk <| Gn [11, 12, 13, 14] [0, 1, 5, 6, 9, 14, 221, 225, 228] <| Mr 1 (pt v39) qhbk <| Gn [13, 14] [0, 1, 5, 6, 14, 221, 225, 229, 230] <| Jg (service_spec Hk r37 gg38 [faT] (faD i j 3).rs Fk v39 (faD i j 3).s Gk l40 (faD i j 3).xs (faD i j 3).cs ((i + j + 1 + 3 + 1 : Nat) : Int) _ hRk hVk hLk dkHF dkHG dkFG) ?_
 rintro _ w369 ⟨A371, cap371, rfl, hA371, ow371, ⟨F372, F375, ho373, ho376, hfr374, hfr377, hdis378, dA379, dA380⟩, hk370⟩
 refine ⟨_, rfl, ?_⟩
 have hsz381 := Keep.size hk370
 replace hcb8 := hcb8.keep hk370 (fun hs => by rcases hs with hs | hs; (have u9 : _ = gg38 := hs; have u0 := hHko _ (Rfr.atg hRk); have u1 := ltHk _ (Rfr.atg hRk); omega); (have u0 := hFko _ hs; have u1 := ltFk _ hs; omega))
 replace hcb320 := hcb320.keep hk370 (fun hs => by rcases hs with hs | hs; (have u9 : _ = gg38 := hs; have u0 := hHko _ (Rfr.atg hRk); have u1 := ltHk _ (Rfr.atg hRk); omega); (have u0 := hFko _ hs; have u1 := ltFk _ hs; omega))
 replace hbk := hbk.keep hk370 (fun hs => by rcases hs with hs | hs; (have u9 : _ = gg38 := hs; have u0 := hHko _ (Rfr.atg hRk); have u1 := ltHk _ (Rfr.atg hRk); omega); (have u0 := hFko _ hs; have u1 := ltFk _ hs; omega))
 replace hLk := hLk.keep hk370 (fun q hq hs => by rcases hs with hs | hs; exact (fun q h1 h2 => dkHG q h2 h1) q hq (by rw [show q = gg38 from hs]; exact (Rfr.atg hRk)); exact (fun q h1 h2 => dkFG q h2 h1) q hq hs)
 replace hK0 := Keep.fresh hK0 hk370 (by intro i hi hs; first | exact hs | (rcases hs with hs | hs; (have u9 : _ = gg38 := hs; have u0 := hHko _ (Rfr.atg hRk); have u1 := ltHk _ (Rfr.atg hRk); omega); (have u0 := hFko i hs; have u1 := ltFk i hs; omega)))
 have own383 : ∀ q, F372 q → w.heap.size ≤ q ∧ q ≠ b8 ∧ q ≠ b320 ∧ q ≠ b36 := fun q hq => by rcases hfr374 q hq with h | h; (have h1 := hHko q h; have h2 := ltHk q h; omega); omega
 have lt382 := Rfr.lt ho373
 have dis384 : ∀ q, F372 q → ¬ Gk q := fun q h1 h2 => by rcases hfr374 q h1 with h | h; exact dkHG q h h2; (have h4 := ltGk q h2; omega)
 have own386 : ∀ q, F375 q → w.heap.size ≤ q ∧ q ≠ b8 ∧ q ≠ b320 ∧ q ≠ b36 := fun q hq => by rcases hfr377 q hq with h | h; (have h1 := hFko q h; have h2 := ltFk q h; omega); omega
 have lt385 := VotT.lt ho376
 have dis387 : ∀ q, F375 q → ¬ Gk q := fun q h1 h2 => by rcases hfr377 q h1 with h | h; exact dkFG q h h2; (have h4 := ltGk q h2; omega)
 replace ho373 : Rfr F372 w369 r37 gg38 [faT] (faE i j).rs := ho373
 replace ho376 : VotT F375 w369 v39 ((faE i j).s) := ho376
 replace hLk : Led Gk w369 l40 (faE i j).xs (faE i j).cs := hLk
 refine Gn [] [0, 1, 5, 6, 14, 17] <| GI_end <| X_then <| Vr <| On 3 [0, 1, 5, 14, 17, 235] <| Lr 2 (pt r37) hbk <| Kk (rget_spec F372 r37 gg38 [faT] (faE i j).rs 0 _ ho373) fun w388 hk389 _ => ?_
 replace hK0 := hK0.tn hk389
 refine On 8 [0, 1, 5, 14, 17, 238, 239] <| Al 57 (.agg (Rfm.cells Rfm.zero).toArray) (Rfm.cells Rfm.zero) ?_
 intro b391 w391 e391 hb391 k391 z391
 have hsz392 := Keep.size k391
 replace hcb8 := hcb8.k0 (hk389.tr k391)
 replace hcb320 := hcb320.k0 (hk389.tr k391)
 replace hK0 := hK0.tn k391
 have hb391lt := hb391.lt
 refine Sg 0 (Rfm.cells (getA (faE i j).rs 0)) hb391 (Rfm.len _) (Rfm.one _) ?_
 intro w393 hb391_396 hk394 hz395
 replace hb391_396 : Blk w393 b391 (Rfm.cells (getA (faE i j).rs 0)) 57 := (Blk.eqL (Rfm.over _ _) hb391_396)
 have hsz397 := Keep.size hk394
 replace hcb8 := hcb8.k1 hk394
 replace hcb320 := hcb320.k1 hk394
 replace hK0 := Keep.fr hK0 hk394
 refine On 11 [0, 1, 5, 14, 17, 18, 19] <| Oer <| On 1 [0, 1, 5, 14, 17, 18, 19, 240] <| Lr 40 (nt ((getA (faD i j 0).rs 0).till)) hcb320 <| On 3 [0, 1, 5, 17, 18, 19, 241, 242] <| Lr 39 (nt ((getA (faD i j 0).rs 0).since)) hcb320 <| On 9 [17, 18, 19, 241, 247, 248] <| Lr 4 (nt 4) hcb8 <| On 13 [17, 18, 19, 252] <| Oq (u := .bool (decide ((getA (faD i j 0).rs 0).till = IntKind.i64.wrap ((IntKind.i64.wrap ((IntKind.i64.wrap (((getA (faD i j 0).rs 0).since) + (i : Int))) + (j : Int))) + 4)))) (v := .bool true) 252 (by rw [decide_eq_true (show ((getA (faD i j 0).rs 0).till = IntKind.i64.wrap ((IntKind.i64.wrap ((IntKind.i64.wrap (((getA (faD i j 0).rs 0).since) + (i : Int))) + (j : Int))) + 4)) from hf5)]) <| On 18 [18, 19, 257] <| Oq (u := .bool (decide ((((rwEvs [faT] (faD i j 3) ((i + j + 1 + 3 + 1 : Nat) : Int)).length : Nat) : Int) = 1))) (v := .bool true) 257 (by rw [decide_eq_true (show ((((rwEvs [faT] (faD i j 3) ((i + j + 1 + 3 + 1 : Nat) : Int)).length : Nat) : Int) = 1) from (by rw [hf7]; rfl))]) <| On 21 [18, 260] <| Oq (u := .bool ((getR (faE i j).rs 0).isSome)) (v := .bool true) 260 (by rw [show ((getR (faE i j).rs 0).isSome) = true from hf8]) <| On 22 [260, 261] <| Lr 0 (nt ((getA (faE i j).rs 0).state)) hb391_396 <| On 26 [265] <| Oq (u := .bool (decide ((getA (faE i j).rs 0).state = 2))) (v := .bool true) 265 (by rw [decide_eq_true (show ((getA (faE i j).rs 0).state = 2) from hf9)]) <| Kk (known_spec _) fun w402 hk403 _ => ?_
 replace hK0 := hK0.tn hk403
 exact Oen [4] <| Rr (.bool true) ⟨rfl, hK0⟩
end Go.Al
