/-
  Put together out of 2 texts: Walks of the laws of refer: states; one that nobody backs. Walks of the laws of refer: so many may be submitted.
-/
import Derived.Test.YtjjfimbihdoknaaGreatReferFullB5
namespace Go.Al
open Go Go.RowKit Go.Proofs
/-! ### States, and what is done to them -/
structure RW where
  xs : List Acc
  cs : List Ci
  s : VS
  rs : List Rfm
def rwQ0 : RW := ⟨rfX, [], VS.zero, []⟩
def rwSub (ts : List Trk) (q : RW) (who of after : Int) (sum : Nat → Int) (now : Int) : RW := ⟨subX q.xs q.cs q.s ts q.rs who of after, q.cs, subS q.xs q.cs q.s ts q.rs who of after, subR q.xs q.cs q.s ts q.rs who of after sum now⟩
def rwSvc (ts : List Trk) (q : RW) (now : Int) : RW := ⟨q.xs, q.cs, (svcQ ts q.xs q.s q.rs now).s, (svcQ ts q.xs q.s q.rs now).rs⟩
def rwEvs (ts : List Trk) (q : RW) (now : Int) : List Evt := (svcQ ts q.xs q.s q.rs now).out
def rwTrn (q : RW) (a b n : Int) : RW := ⟨transX q.xs q.cs a b n, q.cs, q.s, q.rs⟩
def RW.subE (ts : List Trk) (q : RW) (who of after : Int) : Int := _root_.Go.Al.subE q.xs q.cs q.s ts q.rs who of after
theorem SlT.ofE {α : Type} {w : World} {sz cap : Nat} {f : α → List Value} {A : Option Addr} {xs ys : List α} (h : SlT w sz f A cap xs) (e : xs = ys) : SlT w sz f A cap ys := e ▸ h
def plainT : Trk := ⟨1, 20, 2, 10, 3, 1, ⟨1, 500000000, 500000000, 1, 0⟩, ⟨1, 100000000, 100000000, 1, 0⟩, 50, 2⟩
theorem plain_ok : okTs [plainT] := ⟨by decide, by decide, by decide⟩

set_option maxRecDepth 10000 in
theorem plain_spec (w : World) : Calls Tryz.prog 16 #[] w fun e w' => e = .returned (.agg plainT.cells.toArray) ∧ Keep none_ w w' := by
 have hK0 : Keep none_ w w := Keep.refl _ _
 have hzhK0 := Keep.size hK0
 refine enterM Tryz.func16 rfl [] 4 rfl rfl rfl ?_
 refine V_pick [] rfl ?_
 refine V_seq ?_
 refine V_region ?_
 refine OI_alloc 27 (.agg (Trk.cells Trk.zero).toArray) (Trk.cells Trk.zero) (some 0) (by kernel_rfl) (by kernel_rfl) (by kernel_rfl) ?_
 intro b1 w1 e1 hb1 k1 z1
 have hsz2 := Keep.size k1
 replace hK0 := Keep.tr hK0 (Keep.ofNone k1)
 have hb1lt := hb1.lt
 refine OI_end rfl ?_
 refine X_then ?_
 refine V_seq ?_
 refine V_region ?_
 refine OI_static 3 [(0, pt b1), (3, .agg (Trk.cells plainT).toArray)] (by kernel_rfl) ?_
 refine OI_set (m := 18) (kd := true) 27 (.tmp 0) (.tmp 3) 0 (.agg (Trk.cells plainT).toArray) (Trk.cells plainT) none (by kernel_rfl) (by kernel_rfl) (by kernel_rfl) hb1 (by kernel_rfl) rfl (Trk.len _) (Nat.le_of_ble_eq_true (by kernel_rfl)) (Trk.one _) ?_
 intro w3 hb1_6 hk4 hz5
 replace hb1_6 : Blk w3 b1 (Trk.cells plainT) 27 := (Blk.eqL (Trk.over _ _) hb1_6)
 have hsz7 := Keep.size hk4
 replace hK0 := Keep.fresh hK0 hk4 (by intro i hi hs; first | exact hs | exact Or.inl hs | exact Or.inr hs | (exfalso; have hs2 : i = b1 := hs; omega))
 refine OI_end rfl ?_
 refine X_then ?_
 refine V_ret ?_
 exact leave0 (.agg (Trk.cells plainT).toArray) (.inl rfl) (res_agg1 (m := 18) rfl rfl (by kernel_rfl) hb1_6 rfl) ⟨rfl, hK0⟩

def kwQ1 : RW := rwSub [plainT] rwQ0 1 0 0 z0 0
def kwQ2 : RW := rwSvc [plainT] kwQ1 29
def kwQ3 : RW := rwSvc [plainT] kwQ2 30
theorem kw1 : RW.subE [plainT] rwQ0 1 0 0 = 0 := by kernel_rfl
theorem kw2 : rwEvs [plainT] kwQ1 29 = [] := by kernel_rfl
theorem kw3 : rwEvs [plainT] kwQ2 30 = [Evt.mk 1 0 4] := by kernel_rfl

set_option maxRecDepth 10000 in
set_option maxHeartbeats 1000000 in
theorem known_spec (w : World) : Calls Tryz.prog 18 #[] w fun e w' => e = .returned (.bool true) ∧ Keep none_ w w' := by
 have hK0 : Keep none_ w w := Keep.refl _ _
 have hzhK0 := Keep.size hK0
 refine enterV Tryz.func18 rfl [] 77 rfl rfl rfl ?_
 refine V_pick [] rfl ?_
 refine V_seq ?_
 refine V_region ?_
 refine OI_static 1 [] (by kernel_rfl) ?_
 refine OI_end rfl ?_
 refine X_then ?_
 refine V_seq ?_
 refine V_region ?_
 refine OI_call { callee := (Callee.value (Operand.func 16)), args := #[], argTypes := #[] } 16 #[] (some 6) (by kernel_rfl) (by kernel_rfl) (by kernel_rfl) (plain_spec _) ?_
 rintro _ w1 ⟨rfl, hk2⟩
 refine ⟨_, rfl, ?_⟩
 have hsz3 := Keep.size hk2
 replace hK0 := Keep.tr hK0 (Keep.ofNone hk2)
 refine OI_slit (E := 27) (zv := .agg #[nt 0, nt 0, nt 0, nt 0, nt 0, nt 0, nt 0, nt 0, nt 0, nt 0, nt 0, nt 0, nt 0, nt 0, nt 0, nt 0, nt 0, nt 0]) (sz := 18) (by_ := 144) 29 1 #[(0, (Operand.tmp 6))] [.agg (Trk.cells plainT).toArray] (Trk.cells plainT) (some 7) (by kernel_rfl) (by kernel_rfl) (by kernel_rfl) (by omega) rfl (by omega) (by intro v hv; obtain rfl := List.mem_singleton.1 hv; show (Trk.cells plainT).toArray.size = 18; simp [Trk.len]) (by kernel_rfl) (by show (Trk.cells plainT).toArray.toList ++ [] = _; simp) ?_
 intro b4 w4 e4 hb4 k4 z4
 have hsz5 := Keep.size k4
 replace hK0 := Keep.tr hK0 (Keep.ofNone k4)
 have hb4lt := hb4.lt
 refine OI_call { callee := (Callee.value (Operand.func 15)), args := #[(Operand.tmp 7)], argTypes := #[29] } 15 #[.slice (some ⟨b4, 0, none⟩) 1 1] (some 8) (by kernel_rfl) (by kernel_rfl) (by kernel_rfl) (begin_weak (some ⟨b4, 0, none⟩) 1 [(plainT)] _ (slt_blk (xs := [(plainT)]) (f := Trk.cells) hb4 Trk.len rfl) plain_ok) ?_
 rintro _ w8 ⟨b10, r11, gg12, v13, l14, H15, F16, G17, xv18, yv19, zv20, rfl, hb21, hR22, hV23, hL24, hk9, hge25, oH26, oF27, oG28, dHF29, dHG30, dFG31⟩
 refine ⟨_, rfl, ?_⟩
 have hsz32 := Keep.size hk9
 replace hb4 := hb4.keep hk9 (fun f => f)
 replace hK0 := Keep.tr hK0 (Keep.ofNone hk9)
 have hb10lt := hb21.lt
 have own33 : ∀ q, H15 q → w4.heap.size ≤ q ∧ q ≠ b4 ∧ q ≠ b10 := fun q hq => by have h1 := oH26 q hq; omega
 have lt34 := Rfr.lt hR22
 have own35 : ∀ q, F16 q → w4.heap.size ≤ q ∧ q ≠ b4 ∧ q ≠ b10 := fun q hq => by have h1 := oF27 q hq; omega
 have lt36 := VotT.lt hV23
 have own37 : ∀ q, G17 q → w4.heap.size ≤ q ∧ q ≠ b4 ∧ q ≠ b10 := fun q hq => by have h1 := oG28 q hq; omega
 have lt38 := Led.lt hL24
 replace hR22 : Rfr H15 w8 r11 gg12 [(plainT)] rwQ0.rs := hR22
 replace hV23 : VotT F16 w8 v13 rwQ0.s := hV23
 replace hL24 : Led G17 w8 l14 rwQ0.xs rwQ0.cs := hL24
 refine OI_static 4 [(1, pt b10)] (by kernel_rfl) ?_
 refine OI_end rfl ?_
 refine X_then ?_
 refine V_seq ?_
 refine V_seq ?_
 refine V_region ?_
 refine OI_static 2 [(1, pt b10), (10, .bool false)] (by kernel_rfl) ?_
 refine OI_end rfl ?_
 refine X_then ?_
 refine V_false rfl ?_
 refine V_skip ?_
 refine X_then ?_
 refine V_seq ?_
 refine V_draws (acts [13]) none_ [[0, 1, 2, 3, 4, 5, 6, 7, 8, 9, 10, 11, 12, 13, 14, 15, 16, 17, 18]] (by kernel_rfl) (by repeat first | exact (by first | exact sure_body (by rintro _ _ ⟨_, _, h, _⟩; exact ⟨_, h⟩) | exact sure_body (by rintro _ _ ⟨_, _, _, _, _, _, _, _, _, _, _, h, _⟩; exact ⟨_, h⟩) | exact sure_body (by rintro _ _ ⟨h, _⟩; exact ⟨_, h⟩)) | refine sure_then ?_ | refine sure_block ?_ | refine sure_join ?_) (by kernel_rfl) ?_
 intro w40 hk39 he41 L hL42
 have hsz43 := Keep.size hk39
 replace hb4 := hb4.keep hk39 (fun f => f)
 replace hb21 := hb21.keep hk39 (fun f => f)
 replace hK0 := Keep.tr hK0 (Keep.ofNone hk39)
 replace hR22 := Rfr.keep hR22 hk39 (fun _ _ f => f)
 replace hV23 := VotT.keep hV23 hk39 (fun _ _ f => f)
 replace hL24 := Led.keep hL24 hk39 (fun _ _ f => f)
 have qhb4 := hb4
 have qhb21 := hb21
 have K44 : Keep none_ w40 w40 := Keep.refl _ _
 obtain rfl := List.mem_singleton.1 hL42
 refine GI_static [3, 4, 5, 6, 7, 8, 9, 10, 11, 12, 13, 14, 15, 16, 17, 18] [(1, pt b10), (14, .pointer (some ⟨b10, 2, none⟩))] (by kernel_rfl) ?_
 refine GI_cell 34 (.tmp 14) 2 (pt r11) (some 15) (by kernel_rfl) (by kernel_rfl) (by kernel_rfl) qhb21 (fun f => f) (m := 1) (by kernel_rfl) rfl ?_
 refine GI_static [7, 8, 9, 10, 11, 12, 13, 14, 15, 16, 17, 18] [(1, pt b10), (15, pt r11), (18, pt b10)] (by kernel_rfl) ?_
 refine GI_cell 32 (.tmp 18) 0 (pt l14) (some 19) (by kernel_rfl) (by kernel_rfl) (by kernel_rfl) qhb21 (fun f => f) (m := 1) (by kernel_rfl) rfl ?_
 refine GI_static [11, 12, 13, 14, 15, 16, 17, 18] [(1, pt b10), (15, pt r11), (19, pt l14), (22, .pointer (some ⟨b10, 1, none⟩))] (by kernel_rfl) ?_
 refine GI_cell 33 (.tmp 22) 1 (pt v13) (some 23) (by kernel_rfl) (by kernel_rfl) (by kernel_rfl) qhb21 (fun f => f) (m := 1) (by kernel_rfl) rfl ?_
 refine GI_static [13, 14, 15, 16, 17, 18] [(1, pt b10), (15, pt r11), (19, pt l14), (23, pt v13), (24, .agg (hshc z0).toArray)] (by kernel_rfl) ?_
 refine GI_call0 { callee := (Callee.value (Operand.func 17)), args := #[(Operand.tmp 15), (Operand.tmp 19), (Operand.tmp 23), (Operand.const (Value.int IntKind.i64 1)), (Operand.const (Value.int IntKind.i64 0)), (Operand.tmp 24), (Operand.const (Value.int IntKind.i64 0)), (Operand.const (Value.int IntKind.i64 0))], argTypes := #[34, 32, 33, 3, 3, 42, 3, 3] } 17 #[pt r11, pt l14, pt v13, nt 1, nt 0, .agg (hshc z0).toArray, nt 0, nt 0] (some 25) (by kernel_rfl) (by kernel_rfl) (by kernel_rfl) (by kernel_rfl) (by kernel_rfl) (submit_spec H15 r11 gg12 [(plainT)] rwQ0.rs F16 v13 rwQ0.s G17 l14 rwQ0.xs rwQ0.cs 1 0 z0 0 0 _ hR22 hV23 hL24 dHF29 dHG30 dFG31) ?_
 rintro _ w47 ⟨rfl, ⟨F49, F52, F55, ho50, ho53, ho56, hfr51, hfr54, hfr57, hdis58, hdis59, hdis60⟩, hk48⟩
 refine ⟨_, rfl, ?_⟩
 have hsz61 := Keep.size hk48
 replace hb4 := hb4.keep hk48 (fun hs => by rcases hs with hs | hs | hs; (have u9 : _ = gg12 := hs; have u0 := own33 _ (Rfr.atg hR22); have u1 := lt34 _ (Rfr.atg hR22); omega); (have u0 := own35 _ hs; have u1 := lt36 _ hs; omega); (have u0 := own37 _ hs; have u1 := lt38 _ hs; omega))
 replace hb21 := hb21.keep hk48 (fun hs => by rcases hs with hs | hs | hs; (have u9 : _ = gg12 := hs; have u0 := own33 _ (Rfr.atg hR22); have u1 := lt34 _ (Rfr.atg hR22); omega); (have u0 := own35 _ hs; have u1 := lt36 _ hs; omega); (have u0 := own37 _ hs; have u1 := lt38 _ hs; omega))
 replace hK0 := Keep.fresh hK0 hk48 (by intro i hi hs; first | exact hs | (rcases hs with hs | hs | hs; (have u9 : _ = gg12 := hs; have u0 := own33 _ (Rfr.atg hR22); have u1 := lt34 _ (Rfr.atg hR22); omega); (have u0 := own35 i hs; have u1 := lt36 i hs; omega); (have u0 := own37 i hs; have u1 := lt38 i hs; omega)))
 have own63 : ∀ q, F49 q → w4.heap.size ≤ q ∧ q ≠ b4 ∧ q ≠ b10 := fun q hq => by rcases hfr51 q hq with h | h; (have h1 := own33 q h; have h2 := lt34 q h; omega); omega
 have lt62 := Rfr.lt ho50
 have own65 : ∀ q, F52 q → w4.heap.size ≤ q ∧ q ≠ b4 ∧ q ≠ b10 := fun q hq => by rcases hfr54 q hq with h | h; (have h1 := own35 q h; have h2 := lt36 q h; omega); omega
 have lt64 := VotT.lt ho53
 have own67 : ∀ q, F55 q → w4.heap.size ≤ q ∧ q ≠ b4 ∧ q ≠ b10 := fun q hq => by rcases hfr57 q hq with h | h; (have h1 := own37 q h; have h2 := lt38 q h; omega); omega
 have lt66 := Led.lt ho56
 replace ho50 : Rfr F49 w47 r11 gg12 [(plainT)] kwQ1.rs := ho50
 replace ho53 : VotT F52 w47 v13 kwQ1.s := ho53
 replace ho56 : Led F55 w47 l14 kwQ1.xs kwQ1.cs := ho56
 refine GI_pick [(1, pt b10), (25, .tuple #[nt (if RW.subE [(plainT)] rwQ0 1 0 0 = 0 then ((rwQ0.rs.length : Nat) : Int) else 0), nt (RW.subE [(plainT)] rwQ0 1 0 0)])] (by kernel_rfl) ?_
 refine GI_eq [(1, pt b10), (25, .tuple #[nt 0, nt 0])] (by rw [kw1]; rfl) ?_
 refine GI_static [] [(1, pt b10), (2, nt 0), (3, nt 0)] (by kernel_rfl) ?_
 refine GI_end ?_
 refine X_then ?_
 refine V_seq ?_
 refine V_draws (acts [12]) none_ [[0, 1, 2, 3, 4, 5, 6, 7, 8, 9, 10, 11, 12, 13]] (by kernel_rfl) (by repeat first | exact (by first | exact sure_body (by rintro _ _ ⟨_, _, h, _⟩; exact ⟨_, h⟩) | exact sure_body (by rintro _ _ ⟨_, _, _, _, _, _, _, _, _, _, _, h, _⟩; exact ⟨_, h⟩) | exact sure_body (by rintro _ _ ⟨h, _⟩; exact ⟨_, h⟩)) | refine sure_then ?_ | refine sure_block ?_ | refine sure_join ?_) (by kernel_rfl) ?_
 intro w69 hk68 he70 L hL71
 have hsz72 := Keep.size hk68
 replace hb4 := hb4.keep hk68 (fun f => f)
 replace hb21 := hb21.keep hk68 (fun f => f)
 replace hK0 := Keep.tr hK0 (Keep.ofNone hk68)
 replace ho50 := Rfr.keep ho50 hk68 (fun _ _ f => f)
 replace ho53 := VotT.keep ho53 hk68 (fun _ _ f => f)
 replace ho56 := Led.keep ho56 hk68 (fun _ _ f => f)
 have qhb4 := hb4
 have qhb21 := hb21
 have K73 : Keep none_ w69 w69 := Keep.refl _ _
 obtain rfl := List.mem_singleton.1 hL71
 refine GI_static [3, 4, 5, 6, 7, 8, 9, 10, 11, 12, 13] [(1, pt b10), (2, nt 0), (3, nt 0), (30, .pointer (some ⟨b10, 2, none⟩))] (by kernel_rfl) ?_
 refine GI_cell 34 (.tmp 30) 2 (pt r11) (some 31) (by kernel_rfl) (by kernel_rfl) (by kernel_rfl) qhb21 (fun f => f) (m := 1) (by kernel_rfl) rfl ?_
 refine GI_static [7, 8, 9, 10, 11, 12, 13] [(1, pt b10), (2, nt 0), (3, nt 0), (31, pt r11), (34, pt b10)] (by kernel_rfl) ?_
 refine GI_cell 32 (.tmp 34) 0 (pt l14) (some 35) (by kernel_rfl) (by kernel_rfl) (by kernel_rfl) qhb21 (fun f => f) (m := 1) (by kernel_rfl) rfl ?_
 refine GI_static [11, 12, 13] [(1, pt b10), (2, nt 0), (3, nt 0), (31, pt r11), (35, pt l14), (38, .pointer (some ⟨b10, 1, none⟩))] (by kernel_rfl) ?_
 refine GI_cell 33 (.tmp 38) 1 (pt v13) (some 39) (by kernel_rfl) (by kernel_rfl) (by kernel_rfl) qhb21 (fun f => f) (m := 1) (by kernel_rfl) rfl ?_
 refine GI_call0 { callee := (Callee.value (Operand.func 22)), args := #[(Operand.tmp 31), (Operand.tmp 35), (Operand.tmp 39), (Operand.const (Value.int IntKind.i64 29))], argTypes := #[34, 32, 33, 3] } 22 #[pt r11, pt l14, pt v13, nt 29] (some 40) (by kernel_rfl) (by kernel_rfl) (by kernel_rfl) (by kernel_rfl) (by kernel_rfl) (service_spec F49 r11 gg12 [(plainT)] kwQ1.rs F52 v13 kwQ1.s F55 l14 kwQ1.xs kwQ1.cs 29 _ ho50 ho53 ho56 hdis58 hdis59 hdis60) ?_
 rintro _ w76 ⟨A78, cap78, rfl, hA78, ow78, ⟨F79, F82, ho80, ho83, hfr81, hfr84, hdis85, dA86, dA87⟩, hk77⟩
 refine ⟨_, rfl, ?_⟩
 have hsz88 := Keep.size hk77
 replace hb4 := hb4.keep hk77 (fun hs => by rcases hs with hs | hs; (have u9 : _ = gg12 := hs; have u0 := own63 _ (Rfr.atg ho50); have u1 := lt62 _ (Rfr.atg ho50); omega); (have u0 := own65 _ hs; have u1 := lt64 _ hs; omega))
 replace hb21 := hb21.keep hk77 (fun hs => by rcases hs with hs | hs; (have u9 : _ = gg12 := hs; have u0 := own63 _ (Rfr.atg ho50); have u1 := lt62 _ (Rfr.atg ho50); omega); (have u0 := own65 _ hs; have u1 := lt64 _ hs; omega))
 replace hK0 := Keep.fresh hK0 hk77 (by intro i hi hs; first | exact hs | (rcases hs with hs | hs; (have u9 : _ = gg12 := hs; have u0 := own63 _ (Rfr.atg ho50); have u1 := lt62 _ (Rfr.atg ho50); omega); (have u0 := own65 i hs; have u1 := lt64 i hs; omega)))
 replace ho56 := Led.keep ho56 hk77 (fun q hq hs => by rcases hs with hs | hs; exact (fun q h1 h2 => hdis59 q h2 h1) q hq (by rw [show q = gg12 from hs]; exact (Rfr.atg ho50)); exact (fun q h1 h2 => hdis60 q h2 h1) q hq hs)
 have own90 : ∀ q, F79 q → w4.heap.size ≤ q ∧ q ≠ b4 ∧ q ≠ b10 := fun q hq => by rcases hfr81 q hq with h | h; (have h1 := own63 q h; have h2 := lt62 q h; omega); omega
 have lt89 := Rfr.lt ho80
 have dis91 : ∀ q, F79 q → ¬ F55 q := fun q h1 h2 => by rcases hfr81 q h1 with h | h; exact hdis59 q h h2; (have h4 := lt66 q h2; omega)
 have own93 : ∀ q, F82 q → w4.heap.size ≤ q ∧ q ≠ b4 ∧ q ≠ b10 := fun q hq => by rcases hfr84 q hq with h | h; (have h1 := own65 q h; have h2 := lt64 q h; omega); omega
 have lt92 := VotT.lt ho83
 have dis94 : ∀ q, F82 q → ¬ F55 q := fun q h1 h2 => by rcases hfr84 q h1 with h | h; exact hdis60 q h h2; (have h4 := lt66 q h2; omega)
 have ltA78 := SlT.lt hA78
 have dis95 : ∀ q, inA A78 q → ¬ F55 q := fun q h1 h2 => by have h3 := ow78 q h1; have h4 := lt66 q h2; omega
 replace hA78 := SlT.ofE (xs := (rwEvs [(plainT)] kwQ1 29)) hA78 (show _ = ([] : List Evt) from kw2)
 replace ho80 : Rfr F79 w76 r11 gg12 [(plainT)] kwQ2.rs := ho80
 replace ho83 : VotT F82 w76 v13 kwQ2.s := ho83
 replace ho56 : Led F55 w76 l14 kwQ2.xs kwQ2.cs := ho56
 refine GI_pick [(1, pt b10), (2, nt 0), (3, nt 0), (40, .slice A78 ((rwEvs [(plainT)] kwQ1 29).length) cap78)] (by kernel_rfl) ?_
 refine GI_eq [(1, pt b10), (2, nt 0), (3, nt 0), (40, .slice A78 0 cap78)] (by rw [show (rwEvs [(plainT)] kwQ1 29) = ([] : List Evt) from kw2]; rfl) ?_
 refine GI_static [] [(1, pt b10), (2, nt 0), (3, nt 0), (4, .slice A78 0 cap78)] (by kernel_rfl) ?_
 refine GI_end ?_
 refine X_then ?_
 refine V_seq ?_
 refine V_draws (acts [12]) none_ [[0, 1, 2, 3, 4, 5, 6, 7, 8, 9, 10, 11, 12, 13]] (by kernel_rfl) (by repeat first | exact (by first | exact sure_body (by rintro _ _ ⟨_, _, h, _⟩; exact ⟨_, h⟩) | exact sure_body (by rintro _ _ ⟨_, _, _, _, _, _, _, _, _, _, _, h, _⟩; exact ⟨_, h⟩) | exact sure_body (by rintro _ _ ⟨h, _⟩; exact ⟨_, h⟩)) | refine sure_then ?_ | refine sure_block ?_ | refine sure_join ?_) (by kernel_rfl) ?_
 intro w97 hk96 he98 L hL99
 have hsz100 := Keep.size hk96
 replace hb4 := hb4.keep hk96 (fun f => f)
 replace hb21 := hb21.keep hk96 (fun f => f)
 replace hA78 := SlT.keep0 hA78 hk96
 replace hK0 := Keep.tr hK0 (Keep.ofNone hk96)
 replace ho56 := Led.keep ho56 hk96 (fun _ _ f => f)
 replace ho80 := Rfr.keep ho80 hk96 (fun _ _ f => f)
 replace ho83 := VotT.keep ho83 hk96 (fun _ _ f => f)
 have qhb4 := hb4
 have qhb21 := hb21
 have qhA78 := hA78
 have K101 : Keep none_ w97 w97 := Keep.refl _ _
 obtain rfl := List.mem_singleton.1 hL99
 refine GI_static [3, 4, 5, 6, 7, 8, 9, 10, 11, 12, 13] [(1, pt b10), (2, nt 0), (3, nt 0), (4, .slice A78 0 cap78), (43, .pointer (some ⟨b10, 2, none⟩))] (by kernel_rfl) ?_
 refine GI_cell 34 (.tmp 43) 2 (pt r11) (some 44) (by kernel_rfl) (by kernel_rfl) (by kernel_rfl) qhb21 (fun f => f) (m := 1) (by kernel_rfl) rfl ?_
 refine GI_static [7, 8, 9, 10, 11, 12, 13] [(1, pt b10), (2, nt 0), (3, nt 0), (4, .slice A78 0 cap78), (44, pt r11), (47, pt b10)] (by kernel_rfl) ?_
 refine GI_cell 32 (.tmp 47) 0 (pt l14) (some 48) (by kernel_rfl) (by kernel_rfl) (by kernel_rfl) qhb21 (fun f => f) (m := 1) (by kernel_rfl) rfl ?_
 refine GI_static [11, 12, 13] [(2, nt 0), (3, nt 0), (4, .slice A78 0 cap78), (44, pt r11), (48, pt l14), (51, .pointer (some ⟨b10, 1, none⟩))] (by kernel_rfl) ?_
 refine GI_cell 33 (.tmp 51) 1 (pt v13) (some 52) (by kernel_rfl) (by kernel_rfl) (by kernel_rfl) qhb21 (fun f => f) (m := 1) (by kernel_rfl) rfl ?_
 refine GI_call0 { callee := (Callee.value (Operand.func 22)), args := #[(Operand.tmp 44), (Operand.tmp 48), (Operand.tmp 52), (Operand.const (Value.int IntKind.i64 30))], argTypes := #[34, 32, 33, 3] } 22 #[pt r11, pt l14, pt v13, nt 30] (some 53) (by kernel_rfl) (by kernel_rfl) (by kernel_rfl) (by kernel_rfl) (by kernel_rfl) (service_spec F79 r11 gg12 [(plainT)] kwQ2.rs F82 v13 kwQ2.s F55 l14 kwQ2.xs kwQ2.cs 30 _ ho80 ho83 ho56 hdis85 dis91 dis94) ?_
 rintro _ w104 ⟨A106, cap106, rfl, hA106, ow106, ⟨F107, F110, ho108, ho111, hfr109, hfr112, hdis113, dA114, dA115⟩, hk105⟩
 refine ⟨_, rfl, ?_⟩
 have hsz116 := Keep.size hk105
 replace hb4 := hb4.keep hk105 (fun hs => by rcases hs with hs | hs; (have u9 : _ = gg12 := hs; have u0 := own90 _ (Rfr.atg ho80); have u1 := lt89 _ (Rfr.atg ho80); omega); (have u0 := own93 _ hs; have u1 := lt92 _ hs; omega))
 replace hA78 := SlT.keep hA78 hk105 (fun q hq hs => by rcases hs with hs | hs; exact dA86 q hq (by rw [show q = gg12 from hs]; exact (Rfr.atg ho80)); exact dA87 q hq hs)
 replace hK0 := Keep.fresh hK0 hk105 (by intro i hi hs; first | exact hs | (rcases hs with hs | hs; (have u9 : _ = gg12 := hs; have u0 := own90 _ (Rfr.atg ho80); have u1 := lt89 _ (Rfr.atg ho80); omega); (have u0 := own93 i hs; have u1 := lt92 i hs; omega)))
 replace ho56 := Led.keep ho56 hk105 (fun q hq hs => by rcases hs with hs | hs; exact (fun q h1 h2 => dis91 q h2 h1) q hq (by rw [show q = gg12 from hs]; exact (Rfr.atg ho80)); exact (fun q h1 h2 => dis94 q h2 h1) q hq hs)
 have own118 : ∀ q, F107 q → w4.heap.size ≤ q ∧ q ≠ b4 := fun q hq => by rcases hfr109 q hq with h | h; (have h1 := own90 q h; have h2 := lt89 q h; omega); omega
 have lt117 := Rfr.lt ho108
 have dis119 : ∀ q, F107 q → ¬ inA A78 q := fun q h1 h2 => by rcases hfr109 q h1 with h | h; exact (fun q h1 h2 => dA86 q h2 h1) q h h2; (have h4 := ltA78 q h2; omega)
 have dis120 : ∀ q, F107 q → ¬ F55 q := fun q h1 h2 => by rcases hfr109 q h1 with h | h; exact dis91 q h h2; (have h4 := lt66 q h2; omega)
 have own122 : ∀ q, F110 q → w4.heap.size ≤ q ∧ q ≠ b4 := fun q hq => by rcases hfr112 q hq with h | h; (have h1 := own93 q h; have h2 := lt92 q h; omega); omega
 have lt121 := VotT.lt ho111
 have dis123 : ∀ q, F110 q → ¬ inA A78 q := fun q h1 h2 => by rcases hfr112 q h1 with h | h; exact (fun q h1 h2 => dA87 q h2 h1) q h h2; (have h4 := ltA78 q h2; omega)
 have dis124 : ∀ q, F110 q → ¬ F55 q := fun q h1 h2 => by rcases hfr112 q h1 with h | h; exact dis94 q h h2; (have h4 := lt66 q h2; omega)
 have ltA106 := SlT.lt hA106
 have dis125 : ∀ q, inA A106 q → ¬ F55 q := fun q h1 h2 => by have h3 := ow106 q h1; have h4 := lt66 q h2; omega
 replace hA106 := SlT.ofE (xs := (rwEvs [(plainT)] kwQ2 30)) hA106 (show _ = [Evt.mk 1 0 4] from kw3)
 replace ho108 : Rfr F107 w104 r11 gg12 [(plainT)] kwQ3.rs := ho108
 replace ho111 : VotT F110 w104 v13 kwQ3.s := ho111
 replace ho56 : Led F55 w104 l14 kwQ3.xs kwQ3.cs := ho56
 refine GI_pick [(2, nt 0), (3, nt 0), (4, .slice A78 0 cap78), (53, .slice A106 ((rwEvs [(plainT)] kwQ2 30).length) cap106)] (by kernel_rfl) ?_
 refine GI_eq [(2, nt 0), (3, nt 0), (4, .slice A78 0 cap78), (53, .slice A106 1 cap106)] (by rw [show (rwEvs [(plainT)] kwQ2 30) = [Evt.mk 1 0 4] from kw3]; rfl) ?_
 refine GI_static [] [(2, nt 0), (3, nt 0), (4, .slice A78 0 cap78), (5, .slice A106 1 cap106)] (by kernel_rfl) ?_
 refine GI_end ?_
 refine X_then ?_
 refine V_seq ?_
 refine V_region ?_
 refine OI_static 18 [(70, .bool true), (71, .slice A106 1 cap106)] (by kernel_rfl) ?_
 obtain ⟨b126, o126, L126, T126, rfl, hat126⟩ := SlT.open_ hA106 (by first | omega | (simp only [List.length_map]; omega) | (simp; done) | (simp; omega))
 have hb126lt := hat126.blk.lt
 have hob127 := ow106 b126 ⟨_, rfl, rfl⟩
 have hob128 := ltA106 b126 ⟨_, rfl, rfl⟩
 have hne129 : ∀ q, F55 q → q ≠ b126 := fun q hq hs => (fun q h1 h2 => dis125 q h2 h1) q hq ⟨_, rfl, hs⟩
 have own130 := fun q hq => And.intro (own67 q hq) (hne129 q hq)
 have hne131 : ∀ q, F107 q → q ≠ b126 := fun q hq hs => (fun q h1 h2 => dA114 q h2 h1) q hq ⟨_, rfl, hs⟩
 have own132 := fun q hq => And.intro (own118 q hq) (hne131 q hq)
 have hne133 : ∀ q, F110 q → q ≠ b126 := fun q hq hs => (fun q h1 h2 => dA115 q h2 h1) q hq ⟨_, rfl, hs⟩
 have own134 := fun q hq => And.intro (own122 q hq) (hne133 q hq)
 refine OI_pure (some 72) (.indexAddr 50 (.tmp 71) (.const (Value.int IntKind.i64 0))) (by kernel_rfl) (pure_idxN (b := b126) (o := o126) (len := 1) (cap := cap106) (kd := .i64) (j := 0) (E := 53) (sz := 3) (by_ := 24) (by kernel_rfl) (by kernel_rfl) (by kernel_rfl) (by omega)) ?_
 refine OI_agg 53 (.tmp 72) (o126 + 0 * 3) (Evt.cells (Evt.mk 1 0 4)) (some 73) (by kernel_rfl) (by kernel_rfl) hat126.blk (m := 3) (by kernel_rfl) (At.elem' hat126 (es_at (rfl : ([Evt.mk 1 0 4] : List Evt)[0]? = some (Evt.mk 1 0 4)))) (At.len hat126 (es_at (rfl : ([Evt.mk 1 0 4] : List Evt)[0]? = some (Evt.mk 1 0 4)))) ?_
 refine OI_static 21 [(70, .bool true), (73, .agg (Evt.cells (Evt.mk 1 0 4)).toArray), (74, .agg (Evt.cells (Evt.mk 1 0 4)).toArray)] (by kernel_rfl) ?_
 refine OI_pure (some 75) ((Op.binOp BinOp.eql 53 (Operand.tmp 73) (Operand.tmp 74) 53)) (by kernel_rfl) (pure_eql_same (xs := Evt.cells (Evt.mk 1 0 4)) (by kernel_rfl) (by kernel_rfl) (by kernel_rfl) (by kernel_rfl)) ?_
 refine OI_static 24 [(0, .bool true)] (by kernel_rfl) ?_
 refine OI_end rfl ?_
 refine X_then ?_
 refine V_ret ?_
 exact X_return (.bool true) rfl ⟨rfl, hK0⟩
end Go.Al


namespace Go.Al
open Go Go.RowKit Go.Proofs
/-! ### So many may be submitted -/
def fuQ : Nat → RW
  | 0 => rwQ0
  | i + 1 => rwSub [plainT] (fuQ i) 1 0 0 z0 (i : Int)
def fuE (i : Nat) : Int := if i < 12 then 0 else 3
def fuN (i : Nat) : Int := if i < 12 then i else 0
theorem fu_all : ((List.range 20).all fun i => decide (RW.subE [plainT] (fuQ i) 1 0 0 = fuE i ∧ (i < 12 → (fuQ i).rs.length = i))) = true := by kernel_rfl
theorem fu_more : ((List.range 12).all fun i => decide (RW.subE [plainT] (rwTrn (fuQ i) 2 3 995) 2 0 0 = 6 ∧ (rwSub [plainT] (rwTrn (fuQ i) 2 3 995) 2 0 0 z0 0).rs.length = i)) = true := by kernel_rfl
theorem fu1 {i : Nat} (h : i < 20) : RW.subE [plainT] (fuQ i) 1 0 0 = fuE i ∧ (i < 12 → (fuQ i).rs.length = i) := of_decide_eq_true (List.all_eq_true.1 fu_all i (List.mem_range.2 h))
theorem fu2 {i : Nat} (h : i < 12) : RW.subE [plainT] (rwTrn (fuQ i) 2 3 995) 2 0 0 = 6 ∧ (rwSub [plainT] (rwTrn (fuQ i) 2 3 995) 2 0 0 z0 0).rs.length = i := of_decide_eq_true (List.all_eq_true.1 fu_more i (List.mem_range.2 h))
theorem fu3 {i : Nat} (h : i < 20) : (if RW.subE [plainT] (fuQ i) 1 0 0 = 0 then (((fuQ i).rs.length : Nat) : Int) else 0) = fuN i := by
  obtain ⟨h1, h2⟩ := fu1 h
  rw [h1]; unfold fuE fuN
  split
  · rename_i h3; rw [if_pos rfl, h2 h3]
  · rw [if_neg (by decide)]
theorem fuE0 {i : Nat} (h : i < 12) : fuE i = 0 := if_pos h
theorem fuE3 {i : Nat} (h : ¬ i < 12) : fuE i = 3 := if_neg h
theorem fuN0 {i : Nat} (h : i < 12) : fuN i = i := if_pos h

set_option maxRecDepth 10000 in
set_option maxHeartbeats 2000000 in
theorem walk_ReferFull (n : Int) (w : World) : Calls Tryz.prog 3 #[.int .i64 n] w fun e w' => e = .returned (.bool true) ∧ Keep none_ w w' := by
 have hK0 : Keep none_ w w := Keep.refl _ _
 have hzhK0 := Keep.size hK0
 refine enterV Tryz.func3 rfl [nt n] 103 rfl rfl rfl ?_
 refine V_pick [(0, nt n)] rfl ?_
 refine V_seq ?_
 refine V_region ?_
 refine OI_static 1 [(0, nt n)] (by kernel_rfl) ?_
 refine OI_end rfl ?_
 refine X_then ?_
 refine V_seq ?_
 refine V_seq ?_
 refine V_region ?_
 refine OI_static 3 [(0, nt n), (13, .bool (decide (n < 0)))] (by kernel_rfl) ?_
 by_cases hg1 : n < 0
 ·
  refine OI_eq [(0, nt n), (13, .bool true)] (by first | simp [hg1] | rfl) ?_
  refine OI_static 6 [(0, nt n), (16, .bool true)] (by kernel_rfl) ?_
  refine OI_end rfl ?_
  refine X_then ?_
  refine V_true rfl ?_
  refine V_seq ?_
  refine V_region ?_
  refine OI_static 1 [(2, .bool true)] (by kernel_rfl) ?_
  refine OI_end rfl ?_
  refine X_then ?_
  refine V_ret ?_
  refine X_ret_then ?_
  exact X_return (.bool true) rfl ⟨rfl, hK0⟩
 ·
  refine OI_eq [(0, nt n), (13, .bool false)] (by first | simp [hg1] | rfl) ?_
  refine OI_static 6 [(0, nt n), (16, .bool (decide (n > 20)))] (by kernel_rfl) ?_
  refine OI_end rfl ?_
  refine X_then ?_
  refine V_if (n > 20) (by kernel_rfl) (fun hc2 => ?_) (fun hc2 => ?_)
  ·
   refine V_seq ?_
   refine V_region ?_
   refine OI_static 1 [(2, .bool true)] (by kernel_rfl) ?_
   refine OI_end rfl ?_
   refine X_then ?_
   refine V_ret ?_
   refine X_ret_then ?_
   exact X_return (.bool true) rfl ⟨rfl, hK0⟩
  ·
   refine V_skip ?_
   refine X_then ?_
   refine V_seq ?_
   refine V_region ?_
   refine OI_call { callee := (Callee.value (Operand.func 16)), args := #[], argTypes := #[] } 16 #[] (some 17) (by kernel_rfl) (by kernel_rfl) (by kernel_rfl) (plain_spec _) ?_
   rintro _ w3 ⟨rfl, hk4⟩
   refine ⟨_, rfl, ?_⟩
   have hsz5 := Keep.size hk4
   replace hK0 := Keep.tr hK0 (Keep.ofNone hk4)
   refine OI_slit (E := 27) (zv := .agg #[nt 0, nt 0, nt 0, nt 0, nt 0, nt 0, nt 0, nt 0, nt 0, nt 0, nt 0, nt 0, nt 0, nt 0, nt 0, nt 0, nt 0, nt 0]) (sz := 18) (by_ := 144) 29 1 #[(0, (Operand.tmp 17))] [.agg (Trk.cells plainT).toArray] (Trk.cells plainT) (some 18) (by kernel_rfl) (by kernel_rfl) (by kernel_rfl) (by omega) rfl (by omega) (by intro v hv; obtain rfl := List.mem_singleton.1 hv; show (Trk.cells plainT).toArray.size = 18; simp [Trk.len]) (by kernel_rfl) (by show (Trk.cells plainT).toArray.toList ++ [] = _; simp) ?_
   intro b6 w6 e6 hb6 k6 z6
   have hsz7 := Keep.size k6
   replace hK0 := Keep.tr hK0 (Keep.ofNone k6)
   have hb6lt := hb6.lt
   refine OI_call { callee := (Callee.value (Operand.func 15)), args := #[(Operand.tmp 18)], argTypes := #[29] } 15 #[.slice (some ⟨b6, 0, none⟩) 1 1] (some 19) (by kernel_rfl) (by kernel_rfl) (by kernel_rfl) (begin_weak (some ⟨b6, 0, none⟩) 1 [(plainT)] _ (slt_blk (xs := [(plainT)]) (f := Trk.cells) hb6 Trk.len rfl) plain_ok) ?_
   rintro _ w10 ⟨b12, r13, gg14, v15, l16, H17, F18, G19, xv20, yv21, zv22, rfl, hb23, hR24, hV25, hL26, hk11, hge27, oH28, oF29, oG30, dHF31, dHG32, dFG33⟩
   refine ⟨_, rfl, ?_⟩
   have hsz34 := Keep.size hk11
   replace hb6 := hb6.keep hk11 (fun f => f)
   replace hK0 := Keep.tr hK0 (Keep.ofNone hk11)
   have hb12lt := hb23.lt
   replace hR24 : Rfr H17 w10 r13 gg14 [plainT] [] := hR24
   have own35 : ∀ q, H17 q → w6.heap.size ≤ q ∧ q ≠ b6 ∧ q ≠ b12 := fun q hq => by have h1 := oH28 q hq; omega
   have lt36 := Rfr.lt hR24
   have own37 : ∀ q, F18 q → w6.heap.size ≤ q ∧ q ≠ b6 ∧ q ≠ b12 := fun q hq => by have h1 := oF29 q hq; omega
   have lt38 := VotT.lt hV25
   have own39 : ∀ q, G19 q → w6.heap.size ≤ q ∧ q ≠ b6 ∧ q ≠ b12 := fun q hq => by have h1 := oG30 q hq; omega
   have lt40 := Led.lt hL26
   replace hR24 : Rfr H17 w10 r13 gg14 [plainT] rwQ0.rs := hR24
   replace hV25 : VotT F18 w10 v15 rwQ0.s := hV25
   replace hL26 : Led G19 w10 l16 rwQ0.xs rwQ0.cs := hL26
   refine OI_static 4 [(0, nt n), (3, pt b12)] (by kernel_rfl) ?_
   refine OI_end rfl ?_
   refine X_then ?_
   refine V_seq ?_
   refine V_seq ?_
   refine V_region ?_
   refine OI_static 2 [(0, nt n), (3, pt b12), (21, .bool false)] (by kernel_rfl) ?_
   refine OI_end rfl ?_
   refine X_then ?_
   refine V_false rfl ?_
   refine V_skip ?_
   refine X_then ?_
   refine V_seq ?_
   refine V_seq ?_
   refine V_region ?_
   refine OI_static 1 [(0, nt n), (3, pt b12), (4, nt 0)] (by kernel_rfl) ?_
   refine OI_end rfl ?_
   refine X_then ?_
   refine V_block ?_
   refine V_pick [(0, nt n), (3, pt b12), (4, nt 0)] rfl ?_
   refine V_loop (fun k wI e => ∃ i : Nat, ∃ Hk : Nat → Prop, ∃ Fk : Nat → Prop, ∃ Gk : Nat → Prop, (k + i = n.toNat) ∧ (Blk wI b12 [pt l16, pt v15, pt r13, .pointer xv20, .pointer yv21, .pointer zv22, nt 0] 39) ∧ (Rfr Hk wI r13 gg14 [plainT] (fuQ i).rs) ∧ (VotT Fk wI v15 (fuQ i).s) ∧ (Led Gk wI l16 (fuQ i).xs (fuQ i).cs) ∧ (∀ q, Hk q → w.heap.size ≤ q ∧ q ≠ b12) ∧ (∀ q, Fk q → w.heap.size ≤ q ∧ q ≠ b12) ∧ (∀ q, Gk q → w.heap.size ≤ q ∧ q ≠ b12) ∧ (∀ q, Hk q → ¬ Fk q) ∧ (∀ q, Hk q → ¬ Gk q) ∧ (∀ q, Fk q → ¬ Gk q) ∧ (Keep none_ w wI) ∧ e = [(0, nt n), (3, pt b12), (4, nt ((i : Nat) : Int))]) n.toNat ⟨0, H17, F18, G19, by omega, hb23, hR24, hV25, hL26, (fun q hq => by have h1 := own35 q hq; have h2 := lt36 q hq; omega), (fun q hq => by have h1 := own37 q hq; have h2 := lt38 q hq; omega), (fun q hq => by have h1 := own39 q hq; have h2 := lt40 q hq; omega), dHF31, dHG32, dFG33, hK0, rfl⟩ ?_
   rintro k42 w41 _ ⟨i, Hk, Fk, Gk, hki, hbk, hRk, hVk, hLk, hHko, hFko, hGko, dkHF, dkHG, dkFG, hK0, rfl⟩
   have hb12lt := hbk.lt
   have hzhK0 := Keep.size hK0
   have ltHk := Rfr.lt hRk
   have ltFk := VotT.lt hVk
   have ltGk := Led.lt hLk
   refine V_seq ?_
   refine V_seq ?_
   refine V_region ?_
   refine OI_static 3 [(0, nt n), (3, pt b12), (4, nt ((i : Nat) : Int)), (24, .bool (decide (((i : Nat) : Int) < n)))] (by kernel_rfl) ?_
   refine OI_end rfl ?_
   refine X_then ?_
   refine V_if (((i : Nat) : Int) < n) (by kernel_rfl) (fun hc44 => ?_) (fun hc44 => ?_)
   ·
    refine V_skip ?_
    refine X_then ?_
    refine V_seq ?_
    refine V_block ?_
    refine V_seq ?_
    refine V_draws (acts [14]) none_ [[0, 1, 2, 3, 4, 5, 6, 7, 8, 9, 10, 11, 12, 13, 14, 15, 16, 17, 18, 19]] (by kernel_rfl) (by repeat first | exact (by first | exact sure_body (by rintro _ _ ⟨_, _, h, _⟩; exact ⟨_, h⟩) | exact sure_body (by rintro _ _ ⟨_, _, _, _, _, _, _, _, _, _, _, h, _⟩; exact ⟨_, h⟩) | exact sure_body (by rintro _ _ ⟨h, _⟩; exact ⟨_, h⟩)) | refine sure_then ?_ | refine sure_block ?_ | refine sure_join ?_) (by kernel_rfl) ?_
    intro w46 hk45 he47 L hL48
    have hsz49 := Keep.size hk45
    replace hbk := hbk.keep hk45 (fun f => f)
    replace hRk := Rfr.keep hRk hk45 (fun _ _ f => f)
    replace hVk := VotT.keep hVk hk45 (fun _ _ f => f)
    replace hLk := Led.keep hLk hk45 (fun _ _ f => f)
    replace hK0 := Keep.tr hK0 (Keep.ofNone hk45)
    have qhbk := hbk
    have K50 : Keep none_ w46 w46 := Keep.refl _ _
    obtain rfl := List.mem_singleton.1 hL48
    refine GI_static [3, 4, 5, 6, 7, 8, 9, 10, 11, 12, 13, 14, 15, 16, 17, 18, 19] [(0, nt n), (3, pt b12), (4, nt ((i : Nat) : Int)), (30, .pointer (some ⟨b12, 2, none⟩))] (by kernel_rfl) ?_
    refine GI_cell 34 (.tmp 30) 2 (pt r13) (some 31) (by kernel_rfl) (by kernel_rfl) (by kernel_rfl) qhbk (fun f => f) (m := 1) (by kernel_rfl) rfl ?_
    refine GI_static [7, 8, 9, 10, 11, 12, 13, 14, 15, 16, 17, 18, 19] [(0, nt n), (3, pt b12), (4, nt ((i : Nat) : Int)), (31, pt r13), (34, pt b12)] (by kernel_rfl) ?_
    refine GI_cell 32 (.tmp 34) 0 (pt l16) (some 35) (by kernel_rfl) (by kernel_rfl) (by kernel_rfl) qhbk (fun f => f) (m := 1) (by kernel_rfl) rfl ?_
    refine GI_static [11, 12, 13, 14, 15, 16, 17, 18, 19] [(0, nt n), (3, pt b12), (4, nt ((i : Nat) : Int)), (31, pt r13), (35, pt l16), (38, .pointer (some ⟨b12, 1, none⟩))] (by kernel_rfl) ?_
    refine GI_cell 33 (.tmp 38) 1 (pt v15) (some 39) (by kernel_rfl) (by kernel_rfl) (by kernel_rfl) qhbk (fun f => f) (m := 1) (by kernel_rfl) rfl ?_
    refine GI_static [14, 15, 16, 17, 18, 19] [(0, nt n), (3, pt b12), (4, nt ((i : Nat) : Int)), (31, pt r13), (35, pt l16), (39, pt v15), (40, .agg (hshc z0).toArray), (41, nt ((i : Nat) : Int))] (by kernel_rfl) ?_
    refine GI_call0 { callee := (Callee.value (Operand.func 17)), args := #[(Operand.tmp 31), (Operand.tmp 35), (Operand.tmp 39), (Operand.const (Value.int IntKind.i64 1)), (Operand.const (Value.int IntKind.i64 0)), (Operand.tmp 40), (Operand.const (Value.int IntKind.i64 0)), (Operand.tmp 41)], argTypes := #[34, 32, 33, 3, 3, 42, 3, 3] } 17 #[pt r13, pt l16, pt v15, nt 1, nt 0, .agg (hshc z0).toArray, nt 0, nt ((i : Nat) : Int)] (some 42) (by kernel_rfl) (by kernel_rfl) (by kernel_rfl) (by kernel_rfl) (by kernel_rfl) (submit_spec Hk r13 gg14 [plainT] (fuQ i).rs Fk v15 (fuQ i).s Gk l16 (fuQ i).xs (fuQ i).cs 1 0 z0 0 ((i : Nat) : Int) _ hRk hVk hLk dkHF dkHG dkFG) ?_
    rintro _ w53 ⟨rfl, ⟨F55, F58, F61, ho56, ho59, ho62, hfr57, hfr60, hfr63, hdis64, hdis65, hdis66⟩, hk54⟩
    refine ⟨_, rfl, ?_⟩
    have hsz67 := Keep.size hk54
    replace hbk := hbk.keep hk54 (fun hs => by rcases hs with hs | hs | hs; (have u9 : _ = gg14 := hs; have u0 := hHko _ (Rfr.atg hRk); have u1 := ltHk _ (Rfr.atg hRk); omega); (have u0 := hFko _ hs; have u1 := ltFk _ hs; omega); (have u0 := hGko _ hs; have u1 := ltGk _ hs; omega))
    replace hK0 := Keep.fresh hK0 hk54 (by intro i hi hs; first | exact hs | (rcases hs with hs | hs | hs; (have u9 : _ = gg14 := hs; have u0 := hHko _ (Rfr.atg hRk); have u1 := ltHk _ (Rfr.atg hRk); omega); (have u0 := hFko i hs; have u1 := ltFk i hs; omega); (have u0 := hGko i hs; have u1 := ltGk i hs; omega)))
    have own69 : ∀ q, F55 q → w.heap.size ≤ q ∧ q ≠ b12 := fun q hq => by rcases hfr57 q hq with h | h; (have h1 := hHko q h; have h2 := ltHk q h; omega); omega
    have lt68 := Rfr.lt ho56
    have own71 : ∀ q, F58 q → w.heap.size ≤ q ∧ q ≠ b12 := fun q hq => by rcases hfr60 q hq with h | h; (have h1 := hFko q h; have h2 := ltFk q h; omega); omega
    have lt70 := VotT.lt ho59
    have own73 : ∀ q, F61 q → w.heap.size ≤ q ∧ q ≠ b12 := fun q hq => by rcases hfr63 q hq with h | h; (have h1 := hGko q h; have h2 := ltGk q h; omega); omega
    have lt72 := Led.lt ho62
    replace ho56 : Rfr F55 w53 r13 gg14 [plainT] (fuQ (i + 1)).rs := ho56
    replace ho59 : VotT F58 w53 v15 ((fuQ (i + 1)).s) := ho59
    replace ho62 : Led F61 w53 l16 (fuQ (i + 1)).xs (fuQ (i + 1)).cs := ho62
    refine GI_pick [(0, nt n), (3, pt b12), (4, nt ((i : Nat) : Int)), (42, .tuple #[nt (if RW.subE [plainT] (fuQ i) 1 0 0 = 0 then (((fuQ i).rs.length : Nat) : Int) else 0), nt (RW.subE [plainT] (fuQ i) 1 0 0)])] (by kernel_rfl) ?_
    refine GI_eq [(0, nt n), (3, pt b12), (4, nt ((i : Nat) : Int)), (42, .tuple #[nt (fuN i), nt (fuE i)])] (by rw [fu3 (by omega), (fu1 (i := i) (by omega)).1]) ?_
    refine GI_static [] [(0, nt n), (3, pt b12), (4, nt ((i : Nat) : Int)), (5, nt (fuN i)), (6, nt (fuE i))] (by kernel_rfl) ?_
    refine GI_end ?_
    refine X_then ?_
    refine V_seq ?_
    refine V_seq ?_
    refine V_region ?_
    refine OI_static 2 [(0, nt n), (3, pt b12), (4, nt ((i : Nat) : Int)), (5, nt (fuN i)), (6, nt (fuE i)), (46, .bool (decide (((i : Nat) : Int) ≥ 12)))] (by kernel_rfl) ?_
    refine OI_end rfl ?_
    refine X_then ?_
    refine V_if (((i : Nat) : Int) ≥ 12) (by kernel_rfl) (fun hc74 => ?_) (fun hc74 => ?_)
    ·
     refine V_seq ?_
     refine V_seq ?_
     refine V_region ?_
     refine OI_static 2 [(0, nt n), (3, pt b12), (4, nt ((i : Nat) : Int)), (48, .bool (!(decide (fuE i = 3))))] (by kernel_rfl) ?_
     refine OI_end rfl ?_
     refine X_then ?_
     refine V_eq [(0, nt n), (3, pt b12), (4, nt ((i : Nat) : Int)), (48, .bool false)] (by rw [decide_eq_true (show (fuE i = 3) from fuE3 (by omega))]; rfl) ?_
     refine V_false rfl ?_
     refine V_skip ?_
     refine X_then ?_
     refine V_exit ?_
     refine X_exit_then ?_
     refine X_exit_here ?_
     refine X_then ?_
     refine V_region ?_
     have hw76 : IntKind.i64.wrap (((i : Nat) : Int) + 1) = ((i + 1 : Nat) : Int) := (wrap64_id (by omega) (by omega)).trans (by omega)
     refine OI_static 2 [(0, nt n), (3, pt b12), (26, nt (IntKind.i64.wrap (((i : Nat) : Int) + 1)))] (by kernel_rfl) ?_
     refine OI_eq [(0, nt n), (3, pt b12), (26, nt ((i + 1 : Nat) : Int))] (by rw [hw76]) ?_
     refine OI_static 3 [(0, nt n), (3, pt b12), (4, nt ((i + 1 : Nat) : Int))] (by kernel_rfl) ?_
     refine OI_end rfl ?_
     exact V_again (k42 - 1) (by omega) [(0, nt n), (3, pt b12), (4, nt ((i + 1 : Nat) : Int))] rfl ⟨i + 1, F55, F58, F61, by omega, hbk, ho56, ho59, ho62, (fun q hq => by have h1 := own69 q hq; have h2 := lt68 q hq; omega), (fun q hq => by have h1 := own71 q hq; have h2 := lt70 q hq; omega), (fun q hq => by have h1 := own73 q hq; have h2 := lt72 q hq; omega), hdis64, hdis65, hdis66, hK0, rfl⟩
    ·
     refine V_skip ?_
     refine X_then ?_
     refine V_seq ?_
     refine V_region ?_
     refine OI_static 4 [(0, nt n), (3, pt b12), (4, nt ((i : Nat) : Int)), (6, nt (fuE i)), (52, .bool (!(decide (fuN i = ((i : Nat) : Int)))))] (by kernel_rfl) ?_
     refine OI_eq [(0, nt n), (3, pt b12), (4, nt ((i : Nat) : Int)), (6, nt (fuE i)), (52, .bool false)] (by rw [decide_eq_true (show (fuN i = ((i : Nat) : Int)) from fuN0 (by omega))]; rfl) ?_
     refine OI_static 7 [(0, nt n), (3, pt b12), (4, nt ((i : Nat) : Int)), (53, nt (fuE i)), (54, .bool (!(decide (fuE i = 0)))), (55, .bool (!(decide (fuE i = 0))))] (by kernel_rfl) ?_
     refine OI_end rfl ?_
     refine X_then ?_
     refine V_eq [(0, nt n), (3, pt b12), (4, nt ((i : Nat) : Int)), (53, nt (fuE i)), (54, .bool (!(decide (fuE i = 0)))), (55, .bool false)] (by rw [decide_eq_true (show (fuE i = 0) from fuE0 (by omega))]; rfl) ?_
     refine V_false rfl ?_
     refine V_skip ?_
     refine X_block ?_
     refine X_then ?_
     refine V_region ?_
     have hw79 : IntKind.i64.wrap (((i : Nat) : Int) + 1) = ((i + 1 : Nat) : Int) := (wrap64_id (by omega) (by omega)).trans (by omega)
     refine OI_static 2 [(0, nt n), (3, pt b12), (26, nt (IntKind.i64.wrap (((i : Nat) : Int) + 1))), (53, nt (fuE i)), (54, .bool (!(decide (fuE i = 0))))] (by kernel_rfl) ?_
     refine OI_eq [(0, nt n), (3, pt b12), (26, nt ((i + 1 : Nat) : Int)), (53, nt (fuE i)), (54, .bool (!(decide (fuE i = 0))))] (by rw [hw79]) ?_
     refine OI_static 3 [(0, nt n), (3, pt b12), (4, nt ((i + 1 : Nat) : Int)), (53, nt (fuE i)), (54, .bool (!(decide (fuE i = 0))))] (by kernel_rfl) ?_
     refine OI_end rfl ?_
     exact V_again (k42 - 1) (by omega) [(0, nt n), (3, pt b12), (4, nt ((i + 1 : Nat) : Int))] rfl ⟨i + 1, F55, F58, F61, by omega, hbk, ho56, ho59, ho62, (fun q hq => by have h1 := own69 q hq; have h2 := lt68 q hq; omega), (fun q hq => by have h1 := own71 q hq; have h2 := lt70 q hq; omega), (fun q hq => by have h1 := own73 q hq; have h2 := lt72 q hq; omega), hdis64, hdis65, hdis66, hK0, rfl⟩
   ·
    obtain rfl : n = ((i : Nat) : Int) := by omega
    refine V_exit ?_
    refine X_exit_then ?_
    refine X_exit_then ?_
    refine X_exit_here ?_
    refine X_then ?_
    refine V_seq ?_
    refine V_seq ?_
    refine V_region ?_
    refine OI_static 2 [(0, nt ((i : Nat) : Int)), (3, pt b12), (57, .bool (decide (((i : Nat) : Int) ≥ 12)))] (by kernel_rfl) ?_
    refine OI_end rfl ?_
    refine X_then ?_
    refine V_if (((i : Nat) : Int) ≥ 12) (by kernel_rfl) (fun hc80 => ?_) (fun hc80 => ?_)
    ·
     refine V_seq ?_
     refine V_region ?_
     refine OI_call { callee := (Callee.value (Operand.func 18)), args := #[], argTypes := #[] } 18 #[] (some 58) (by kernel_rfl) (by kernel_rfl) (by kernel_rfl) (known_spec _) ?_
     rintro _ w81 ⟨rfl, hk82⟩
     refine ⟨_, rfl, ?_⟩
     have hsz83 := Keep.size hk82
     replace hRk := Rfr.keep hRk hk82 (fun _ _ f => f)
     replace hVk := VotT.keep hVk hk82 (fun _ _ f => f)
     replace hLk := Led.keep hLk hk82 (fun _ _ f => f)
     replace hK0 := Keep.tr hK0 (Keep.ofNone hk82)
     refine OI_static 2 [(2, .bool true)] (by kernel_rfl) ?_
     refine OI_end rfl ?_
     refine X_then ?_
     refine V_ret ?_
     refine X_ret_then ?_
     exact X_return (.bool true) rfl ⟨rfl, hK0⟩
    ·
     refine V_skip ?_
     refine X_then ?_
     refine V_seq ?_
     refine V_region ?_
     refine OI_static 3 [(0, nt ((i : Nat) : Int)), (3, pt b12), (61, pt b12)] (by kernel_rfl) ?_
     refine OI_cell 32 (.tmp 61) 0 (pt l16) (some 62) (by kernel_rfl) (by kernel_rfl) hbk (m := 1) (by kernel_rfl) rfl ?_
     refine OI_call { callee := (Callee.value (Operand.func 19)), args := #[(Operand.tmp 62), (Operand.const (Value.int IntKind.i64 2)), (Operand.const (Value.int IntKind.i64 3)), (Operand.const (Value.int IntKind.i64 995))], argTypes := #[32, 3, 3, 3] } 19 #[pt l16, nt 2, nt 3, nt 995] (some 63) (by kernel_rfl) (by kernel_rfl) (by kernel_rfl) (transfer_spec Gk l16 (fuQ i).xs (fuQ i).cs 2 3 995 _ hLk) ?_
     rintro _ w86 ⟨rfl, ⟨F88, ho89, hfr90⟩, hk87⟩
     refine ⟨_, rfl, ?_⟩
     have hsz91 := Keep.size hk87
     replace hbk := hbk.keep hk87 (fun hs => by have h1 := hGko _ hs; have h2 := ltGk _ hs; omega)
     replace hRk := Rfr.keep hRk hk87 (fun q hq hs => (fun q h1 h2 => dkHG q h2 h1) q hs hq)
     replace hVk := VotT.keep hVk hk87 (fun q hq hs => (fun q h1 h2 => dkFG q h2 h1) q hs hq)
     replace hK0 := Keep.fresh hK0 hk87 (by intro i hi hs; first | exact hs | (exfalso; have h1 := hGko i hs; have h2 := ltGk i hs; omega) | (have h1 := hGko i hs; have h2 := ltGk i hs; show _ ∨ _; omega))
     have own93 : ∀ q, F88 q → w.heap.size ≤ q ∧ q ≠ b12 := fun q hq => by rcases hfr90 q hq with h | h; (have h1 := hGko q h; have h2 := ltGk q h; omega); omega
     have lt92 := Led.lt ho89
     have dis94 : ∀ q, F88 q → ¬ Hk q := fun q h1 h2 => by rcases hfr90 q h1 with h | h; exact (fun q h1 h2 => dkHG q h2 h1) q h h2; (have h4 := ltHk q h2; omega)
     have dis95 : ∀ q, F88 q → ¬ Fk q := fun q h1 h2 => by rcases hfr90 q h1 with h | h; exact (fun q h1 h2 => dkFG q h2 h1) q h h2; (have h4 := ltFk q h2; omega)
     replace hRk : Rfr Hk w86 r13 gg14 [plainT] (rwTrn (fuQ i) 2 3 995).rs := hRk
     replace hVk : VotT Fk w86 v15 ((rwTrn (fuQ i) 2 3 995).s) := hVk
     replace ho89 : Led F88 w86 l16 (rwTrn (fuQ i) 2 3 995).xs (rwTrn (fuQ i) 2 3 995).cs := ho89
     refine OI_end rfl ?_
     refine X_then ?_
     refine V_seq ?_
     refine V_draws (acts [13]) none_ [[0, 1, 2, 3, 4, 5, 6, 7, 8, 9, 10, 11, 12, 13, 14, 15, 16, 17, 18]] (by kernel_rfl) (by repeat first | exact (by first | exact sure_body (by rintro _ _ ⟨_, _, h, _⟩; exact ⟨_, h⟩) | exact sure_body (by rintro _ _ ⟨_, _, _, _, _, _, _, _, _, _, _, h, _⟩; exact ⟨_, h⟩) | exact sure_body (by rintro _ _ ⟨h, _⟩; exact ⟨_, h⟩)) | refine sure_then ?_ | refine sure_block ?_ | refine sure_join ?_) (by kernel_rfl) ?_
     intro w97 hk96 he98 L hL99
     have hsz100 := Keep.size hk96
     replace hbk := hbk.keep hk96 (fun f => f)
     replace hRk := Rfr.keep hRk hk96 (fun _ _ f => f)
     replace hVk := VotT.keep hVk hk96 (fun _ _ f => f)
     replace hK0 := Keep.tr hK0 (Keep.ofNone hk96)
     replace ho89 := Led.keep ho89 hk96 (fun _ _ f => f)
     have qhbk := hbk
     have K101 : Keep none_ w97 w97 := Keep.refl _ _
     obtain rfl := List.mem_singleton.1 hL99
     refine GI_static [3, 4, 5, 6, 7, 8, 9, 10, 11, 12, 13, 14, 15, 16, 17, 18] [(0, nt ((i : Nat) : Int)), (3, pt b12), (67, .pointer (some ⟨b12, 2, none⟩))] (by kernel_rfl) ?_
     refine GI_cell 34 (.tmp 67) 2 (pt r13) (some 68) (by kernel_rfl) (by kernel_rfl) (by kernel_rfl) qhbk (fun f => f) (m := 1) (by kernel_rfl) rfl ?_
     refine GI_static [7, 8, 9, 10, 11, 12, 13, 14, 15, 16, 17, 18] [(0, nt ((i : Nat) : Int)), (3, pt b12), (68, pt r13), (71, pt b12)] (by kernel_rfl) ?_
     refine GI_cell 32 (.tmp 71) 0 (pt l16) (some 72) (by kernel_rfl) (by kernel_rfl) (by kernel_rfl) qhbk (fun f => f) (m := 1) (by kernel_rfl) rfl ?_
     refine GI_static [11, 12, 13, 14, 15, 16, 17, 18] [(0, nt ((i : Nat) : Int)), (3, pt b12), (68, pt r13), (72, pt l16), (75, .pointer (some ⟨b12, 1, none⟩))] (by kernel_rfl) ?_
     refine GI_cell 33 (.tmp 75) 1 (pt v15) (some 76) (by kernel_rfl) (by kernel_rfl) (by kernel_rfl) qhbk (fun f => f) (m := 1) (by kernel_rfl) rfl ?_
     refine GI_static [13, 14, 15, 16, 17, 18] [(0, nt ((i : Nat) : Int)), (3, pt b12), (68, pt r13), (72, pt l16), (76, pt v15), (77, .agg (hshc z0).toArray)] (by kernel_rfl) ?_
     refine GI_call0 { callee := (Callee.value (Operand.func 17)), args := #[(Operand.tmp 68), (Operand.tmp 72), (Operand.tmp 76), (Operand.const (Value.int IntKind.i64 2)), (Operand.const (Value.int IntKind.i64 0)), (Operand.tmp 77), (Operand.const (Value.int IntKind.i64 0)), (Operand.const (Value.int IntKind.i64 0))], argTypes := #[34, 32, 33, 3, 3, 42, 3, 3] } 17 #[pt r13, pt l16, pt v15, nt 2, nt 0, .agg (hshc z0).toArray, nt 0, nt 0] (some 78) (by kernel_rfl) (by kernel_rfl) (by kernel_rfl) (by kernel_rfl) (by kernel_rfl) (submit_spec Hk r13 gg14 [plainT] (rwTrn (fuQ i) 2 3 995).rs Fk v15 (rwTrn (fuQ i) 2 3 995).s F88 l16 (rwTrn (fuQ i) 2 3 995).xs (rwTrn (fuQ i) 2 3 995).cs 2 0 z0 0 0 _ hRk hVk ho89 dkHF (fun q h1 h2 => dis94 q h2 h1) (fun q h1 h2 => dis95 q h2 h1)) ?_
     rintro _ w104 ⟨rfl, ⟨F106, F109, F112, ho107, ho110, ho113, hfr108, hfr111, hfr114, hdis115, hdis116, hdis117⟩, hk105⟩
     refine ⟨_, rfl, ?_⟩
     have hsz118 := Keep.size hk105
     replace hbk := hbk.keep hk105 (fun hs => by rcases hs with hs | hs | hs; (have u9 : _ = gg14 := hs; have u0 := hHko _ (Rfr.atg hRk); have u1 := ltHk _ (Rfr.atg hRk); omega); (have u0 := hFko _ hs; have u1 := ltFk _ hs; omega); (have u0 := own93 _ hs; have u1 := lt92 _ hs; omega))
     replace hK0 := Keep.fresh hK0 hk105 (by intro i hi hs; first | exact hs | (rcases hs with hs | hs | hs; (have u9 : _ = gg14 := hs; have u0 := hHko _ (Rfr.atg hRk); have u1 := ltHk _ (Rfr.atg hRk); omega); (have u0 := hFko i hs; have u1 := ltFk i hs; omega); (have u0 := own93 i hs; have u1 := lt92 i hs; omega)))
     have own120 : ∀ q, F106 q → w.heap.size ≤ q ∧ q ≠ b12 := fun q hq => by rcases hfr108 q hq with h | h; (have h1 := hHko q h; have h2 := ltHk q h; omega); omega
     have lt119 := Rfr.lt ho107
     have own122 : ∀ q, F109 q → w.heap.size ≤ q ∧ q ≠ b12 := fun q hq => by rcases hfr111 q hq with h | h; (have h1 := hFko q h; have h2 := ltFk q h; omega); omega
     have lt121 := VotT.lt ho110
     have own124 : ∀ q, F112 q → w.heap.size ≤ q ∧ q ≠ b12 := fun q hq => by rcases hfr114 q hq with h | h; (have h1 := own93 q h; have h2 := lt92 q h; omega); omega
     have lt123 := Led.lt ho113
     replace ho107 : Rfr F106 w104 r13 gg14 [plainT] (rwSub [plainT] (rwTrn (fuQ i) 2 3 995) 2 0 0 z0 0).rs := ho107
     replace ho110 : VotT F109 w104 v15 ((rwSub [plainT] (rwTrn (fuQ i) 2 3 995) 2 0 0 z0 0).s) := ho110
     replace ho113 : Led F112 w104 l16 (rwSub [plainT] (rwTrn (fuQ i) 2 3 995) 2 0 0 z0 0).xs (rwSub [plainT] (rwTrn (fuQ i) 2 3 995) 2 0 0 z0 0).cs := ho113
     refine GI_pick [(0, nt ((i : Nat) : Int)), (3, pt b12), (78, .tuple #[nt (if RW.subE [plainT] (rwTrn (fuQ i) 2 3 995) 2 0 0 = 0 then (((rwTrn (fuQ i) 2 3 995).rs.length : Nat) : Int) else 0), nt (RW.subE [plainT] (rwTrn (fuQ i) 2 3 995) 2 0 0)])] (by kernel_rfl) ?_
     refine GI_eq [(0, nt ((i : Nat) : Int)), (3, pt b12), (78, .tuple #[nt 0, nt 6])] (by rw [(fu2 (i := i) (by omega)).1]; rfl) ?_
     refine GI_static [] [(0, nt ((i : Nat) : Int)), (3, pt b12), (8, nt 6)] (by kernel_rfl) ?_
     refine GI_end ?_
     refine X_then ?_
     refine V_seq ?_
     refine V_region ?_
     refine OI_static 3 [(0, nt ((i : Nat) : Int)), (8, nt 6), (84, .pointer (some ⟨b12, 2, none⟩))] (by kernel_rfl) ?_
     refine OI_cell 34 (.tmp 84) 2 (pt r13) (some 85) (by kernel_rfl) (by kernel_rfl) hbk (m := 1) (by kernel_rfl) rfl ?_
     refine OI_call { callee := (Callee.value (Operand.func 20)), args := #[(Operand.tmp 85)], argTypes := #[34] } 20 #[pt r13] (some 86) (by kernel_rfl) (by kernel_rfl) (by kernel_rfl) (rall_spec F106 r13 gg14 [plainT] (rwSub [plainT] (rwTrn (fuQ i) 2 3 995) 2 0 0 z0 0).rs _ ho107) ?_
     rintro _ w125 ⟨A127, cap127, rfl, hA127, ow127, hk126⟩
     refine ⟨_, rfl, ?_⟩
     have hsz128 := Keep.size hk126
     replace hK0 := Keep.tr hK0 (Keep.ofNone hk126)
     replace ho107 := Rfr.keep ho107 hk126 (fun _ _ f => f)
     replace ho110 := VotT.keep ho110 hk126 (fun _ _ f => f)
     replace ho113 := Led.keep ho113 hk126 (fun _ _ f => f)
     refine OI_static 10 [(0, nt ((i : Nat) : Int)), (8, nt 6), (9, .slice A127 ((rwSub [plainT] (rwTrn (fuQ i) 2 3 995) 2 0 0 z0 0).rs.length) cap127), (10, .bool true)] (by kernel_rfl) ?_
     refine OI_end rfl ?_
     refine X_then ?_
     refine V_seq ?_
     refine V_region ?_
     refine OI_static 12 [(100, .bool (decide ((((rwSub [plainT] (rwTrn (fuQ i) 2 3 995) 2 0 0 z0 0).rs.length : Nat) : Int) = ((i : Nat) : Int))))] (by kernel_rfl) ?_
     refine OI_eq [(100, .bool true)] (by rw [decide_eq_true (show ((((rwSub [plainT] (rwTrn (fuQ i) 2 3 995) 2 0 0 z0 0).rs.length : Nat) : Int) = ((i : Nat) : Int)) from (by rw [(fu2 (i := i) (by omega)).2]))]) ?_
     refine OI_call { callee := (Callee.value (Operand.func 18)), args := #[], argTypes := #[] } 18 #[] (some 101) (by kernel_rfl) (by kernel_rfl) (by kernel_rfl) (known_spec _) ?_
     rintro _ w130 ⟨rfl, hk131⟩
     refine ⟨_, rfl, ?_⟩
     have hsz132 := Keep.size hk131
     replace hK0 := Keep.tr hK0 (Keep.ofNone hk131)
     replace ho107 := Rfr.keep ho107 hk131 (fun _ _ f => f)
     replace ho110 := VotT.keep ho110 hk131 (fun _ _ f => f)
     replace ho113 := Led.keep ho113 hk131 (fun _ _ f => f)
     refine OI_static 15 [(2, .bool true)] (by kernel_rfl) ?_
     refine OI_end rfl ?_
     refine X_then ?_
     refine V_ret ?_
     exact X_return (.bool true) rfl ⟨rfl, hK0⟩
end Go.Al

