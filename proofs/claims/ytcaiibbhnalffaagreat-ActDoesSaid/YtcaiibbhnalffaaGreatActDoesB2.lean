/-
  Put together out of 29 texts: Walks of package grid. Walks of package grid: slices. Walks of package grid: the grid. Walks of package grid: Set. Walks of package grid: a row, a column. Walks of package grid: a grid with its footprint. Walks of package grid. Walks of package grid: the grid. Walks of 
-/
import Derived.Test.YtcaiibbhnalffaaGreatActDoesB1
open Go.IntKind (i64)
set_option maxRecDepth 10000
namespace Go.Al.GQ
open Go Go.RowKit Go.Proofs
structure Ci where
  a : Int
  b : Int
  v : Rfm
def Ci.cells (c : Ci) : List Value := [nt c.a, nt c.b, nt c.v.state, nt c.v.track, .int .u8 (c.v.sum 0), .int .u8 (c.v.sum 1), .int .u8 (c.v.sum 2), .int .u8 (c.v.sum 3), .int .u8 (c.v.sum 4), .int .u8 (c.v.sum 5), .int .u8 (c.v.sum 6), .int .u8 (c.v.sum 7), .int .u8 (c.v.sum 8), .int .u8 (c.v.sum 9), .int .u8 (c.v.sum 10), .int .u8 (c.v.sum 11), .int .u8 (c.v.sum 12), .int .u8 (c.v.sum 13), .int .u8 (c.v.sum 14), .int .u8 (c.v.sum 15), .int .u8 (c.v.sum 16), .int .u8 (c.v.sum 17), .int .u8 (c.v.sum 18), .int .u8 (c.v.sum 19), .int .u8 (c.v.sum 20), .int .u8 (c.v.sum 21), .int .u8 (c.v.sum 22), .int .u8 (c.v.sum 23), .int .u8 (c.v.sum 24), .int .u8 (c.v.sum 25), .int .u8 (c.v.sum 26), .int .u8 (c.v.sum 27), .int .u8 (c.v.sum 28), .int .u8 (c.v.sum 29), .int .u8 (c.v.sum 30), .int .u8 (c.v.sum 31), nt c.v.after, nt c.v.sub, nt c.v.by_, .bool c.v.put, nt c.v.backer, nt c.v.since, nt c.v.till, nt c.v.stop, nt c.v.t.a, nt c.v.t.n, nt c.v.t.s]
theorem Ci.len (c : Ci) : c.cells.length = 47 := rfl
theorem Ci.one (c : Ci) : ∀ u ∈ c.cells, u.oneCell' = true := one_all' rfl
def ordC (a b : Int) (c : Ci) : Int := orI [cmpI c.a a, cmpI c.b b]
theorem place1_spec (c : Ci) (a b : Int) (w : World) : Calls Tryz.prog 92 #[.agg c.cells.toArray, .agg #[nt a, nt b]] w fun e w' => e = .returned (nt (ordC a b c)) ∧ Keep none_ w w' := by
 have hK0 := Keep.refl none_ w
 refine eV ?_
 refine Vr <| OI_box 147 (.tmp 0) (.agg (Ci.cells c).toArray) (Ci.cells c) (some 2) (by kernel_rfl) (by kernel_rfl) rfl ?_
 intro b1 w1 e1 hb1 k1 z1
 have hsz2 := Keep.size k1
 replace hK0 := hK0.tn k1
 have hb1lt := hb1.lt
 refine Bx 145 [nt a, nt b] ?_
 intro b3 w3 e3 hb3 k3 z3
 have hsz4 := Keep.size k3
 replace hK0 := hK0.tn k3
 have hb3lt := hb3.lt
 refine Oen [2, 3] <| V_seq <| Vd1 (acts [5, 11, 12, 13]) none_ [0, 1, 2, 3, 4, 5, 6, 7, 8, 9, 10, 11, 12, 13, 14] fun w6 hk5 he7 K10 _ => ?_
 replace hb1 := hb1.k0 (k3.tr hk5)
 replace hb3 := hb3.k0 hk5
 replace hK0 := hK0.tn hk5
 have qhb1 := hb1
 have qhb3 := hb3
 refine Gn [2, 3, 4, 5, 6, 7, 8, 9, 10, 11, 12, 13, 14] [2, 3, 6] <| Mr 0 (nt c.a) qhb1 <| Gn [4, 5, 6, 7, 8, 9, 10, 11, 12, 13, 14] [2, 3, 7, 8] <| Mr 0 (nt a) qhb3 <| Hq K10 (compare_spec c.a a _) <| Gn [8, 9, 10, 11, 12, 13, 14] [3, 10, 12] <| Mr 1 (nt c.b) qhb1 <| Gn [10, 11, 12, 13, 14] [10, 13, 14] <| Mr 1 (nt b) qhb3 <| Jq (compare_spec c.b b _) <| GI_slit (E := 3) (zv := nt 0) (sz := 1) (by_ := 8) 49 2 #[(0, (Operand.tmp 10)),(1, (Operand.tmp 16))] [nt (cmpI c.a a), nt (cmpI c.b b)] [nt (cmpI c.a a), nt (cmpI c.b b)] (some 17) (by kernel_rfl) (by kernel_rfl) K10 (by kernel_rfl) (by kernel_rfl) (by omega) rfl (by omega) (by intro v hv; simp only [List.mem_cons, List.not_mem_nil, or_false] at hv; rcases hv with rfl | rfl <;> rfl) (by kernel_rfl) rfl ?_
 intro b13 w13 e13 hb13 k13 z13 K14
 have hsz15 := Keep.size k13
 replace hK0 := hK0.tn k13
 have hb13lt := hb13.lt
 refine Gk0 (kL 93 #[(.tmp 17)] #[49]) 93 #[sl_ b13 0 2 2] (some 18) (or_spec _ 2 [cmpI c.a a, cmpI c.b b] _ (slt_blk hb13 (fun _ => rfl) rfl) (by simp)) ?_
 rintro _ w13 ⟨rfl, rfl⟩
 refine ⟨_, rfl, ?_⟩
 exact Gn [] [4] <| GI_end <| X_then <| Rr (nt (orI [cmpI c.a a, cmpI c.b b])) ⟨rfl, hK0⟩
theorem bsearch_spec (A : Option Addr) (cap F : Nat) (xs : List Ci) (kl : List Value) (ord : Ci → Int) (w : World) (hA : SlT w 47 Ci.cells A cap xs) (hkl : kl.length = 2) (hn : xs.length ≤ 1000000) (hb : bodied Tryz.prog F = true)
    (hF : ∀ x w, Calls Tryz.prog F #[.agg (Ci.cells x).toArray, .agg kl.toArray] w fun e w' => e = .returned (nt (ord x)) ∧ Keep none_ w w') (hm : ∀ (i j : Nat) x y, i ≤ j → xs[i]? = some x → xs[j]? = some y → ord y < 0 → ord x < 0) :
    Calls Tryz.prog 91 #[.slice A xs.length cap, .agg kl.toArray, .func (.func F) #[] #[]] w fun e w' => ∃ (i : Nat) (b : Bool), e = .returned (.tuple #[nt (i : Int), .bool b]) ∧ Keep none_ w w' ∧ i ≤ xs.length ∧ (∀ (j : Nat) y, j < i → xs[j]? = some y → ord y < 0) ∧ (∀ (j : Nat) y, i ≤ j → xs[j]? = some y → ¬ ord y < 0) ∧ b = (match xs[i]? with | some y => decide (ord y = 0) | none => false) := by
 have hK0 := Keep.refl none_ w
 refine eV ?_
 refine Vr <| OI_box 145 (.tmp 1) (.agg kl.toArray) kl (some 4) (by kernel_rfl) (by kernel_rfl) rfl ?_
 intro b1 w1 e1 hb1 k1 z1
 have hsz2 := Keep.size k1
 replace hK0 := hK0.tn k1
 have hb1lt := hb1.lt
 refine On 3 [0, 2, 4] <| Oer <| On 3 [0, 2, 4, 8] <| Oer <| Oen [0, 2, 4, 8, 9, 10] <| V_seq <| V_block <| Vp [(0, .slice A xs.length cap),(2, .func (.func F) #[] #[]),(4, pt b1),(8, nt (xs.length : Int)),(9, nt 0),(10, nt (xs.length : Int))] <| V_loop (fun k wI e => ∃ lo : Nat, ∃ hi : Nat, (k + lo = hi) ∧ (lo ≤ hi) ∧ (hi ≤ xs.length) ∧ (∀ (j : Nat) y, j < lo → xs[j]? = some y → ord y < 0) ∧ (∀ (j : Nat) y, hi ≤ j → xs[j]? = some y → ¬ ord y < 0) ∧ Keep none_ w1 wI ∧ e = [(0, .slice A xs.length cap),(2, .func (.func F) #[] #[]),(4, pt b1),(8, nt (xs.length : Int)),(9, nt (lo : Int)),(10, nt (hi : Int))]) xs.length ⟨0, xs.length, rfl, Nat.zero_le _, Nat.le_refl _, (fun j y hj => absurd hj (Nat.not_lt_zero _)),(fun j y hj hy => absurd (List.getElem?_eq_some_iff.1 hy).1 (by omega)), Keep.refl _ _, rfl⟩ ?_
 rintro k4 w3 _ ⟨lo, hi, hk2, hlo, hhi, hbef, haft, hk5, rfl⟩
 have hsz6 := Keep.size hk5
 replace hb1 := hb1.k0 hk5
 replace hA := hA.keep0 (k1.tr hk5)
 replace hK0 := hK0.tn hk5
 have hzhk5 := Keep.size hk5
 refine V_seq <| Vn [0, 2, 4, 8, 9, 10, 17] <| Vi ((lo : Int) < (hi : Int)) (fun hc7 => ?_) (fun hc7 => ?_)
 ·
  refine Vsk <| V_block <| Vr ?_
  have hw8 : i64.wrap ((lo : Int) + (hi : Int)) = ((lo + hi : Nat) : Int) := wrp
  refine On 3 [0, 2, 4, 8, 9, 10, 20] <| Oq (u := nt (i64.wrap ((lo : Int) + (hi : Int)))) (v := nt ((lo + hi : Nat) : Int)) 20 (by rw [hw8]) ?_
  have hw9 : IntKind.u64.wrap ((lo + hi : Nat) : Int) = ((lo + hi : Nat) : Int) := wrap_u64 (by omega)
  refine On 4 [0, 2, 4, 8, 9, 10, 21] <| Oq (u := .int .u64 (IntKind.u64.wrap ((lo + hi : Nat) : Int))) (v := .int .u64 ((lo + hi : Nat) : Int)) 21 (by rw [hw9]) ?_
  have hw10 : Int.fdiv ((lo + hi : Nat) : Int) (2 ^ 1) = (((lo + hi) / 2 : Nat) : Int) := shr1 _
  refine On 5 [0, 2, 4, 8, 9, 10, 22] <| Oq (u := .int .u64 (Int.fdiv ((lo + hi : Nat) : Int) (2 ^ 1))) (v := .int .u64 (((lo + hi) / 2 : Nat) : Int)) 22 (by rw [hw10]) ?_
  have hw11 : i64.wrap (((lo + hi) / 2 : Nat) : Int) = (((lo + hi) / 2 : Nat) : Int) := wrap64_id (by omega) (by omega)
  refine On 6 [0, 2, 4, 8, 9, 10, 23] <| Oq (u := nt (i64.wrap (((lo + hi) / 2 : Nat) : Int))) (v := nt (((lo + hi) / 2 : Nat) : Int)) 23 (by rw [hw11]) <| Oen [0, 2, 4, 8, 9, 10, 11] <| V_seq <| Vd1 (acts [6]) none_ [0, 1, 2, 3, 4, 5, 6, 7] fun w13 hk12 he14 K17 _ => ?_
  replace hb1 := hb1.k0 hk12
  replace hA := hA.keep0 hk12
  replace hk5 := hk5.tn hk12
  have qhb1 := hb1
  refine Gn [3, 4, 5, 6, 7] [0, 2, 4, 8, 9, 10, 11, 24, 25, 26] ?_
  obtain ⟨b18, o18, L18, T18, rfl, hat18⟩ := SlT.opn hA
  have hb18lt := hat18.blk.lt
  refine Gi (b := b18) (o := o18) (len := xs.length) (cap := cap) (j := (lo + hi) / 2) 147 47 152 .i64 ?_
  obtain ⟨x19, hx20⟩ := exAt (xs := xs) (i := (lo + hi) / 2)
  refine Ma (o18 + ((lo + hi) / 2) * 47) (Ci.cells x19) 47 hat18.blk id (At.elem' hat18 (es_at hx20)) (At.len hat18 (es_at hx20)) <| Ma 0 kl 2 qhb1 id (take_all hkl) hkl <| GI_call0 { callee := (Callee.value (Operand.tmp 24)), args := #[(Operand.tmp 28),(Operand.tmp 29)], argTypes := #[147, 145] } F #[.agg (Ci.cells x19).toArray, .agg kl.toArray] (some 30) (by kernel_rfl) (by kernel_rfl) (by kernel_rfl) (by kernel_rfl) hb (hF x19 _) ?_
  rintro _ w21 ⟨rfl, hk22⟩
  refine ⟨_, rfl, ?_⟩
  have hsz23 := Keep.size hk22
  replace hk5 := hk5.tn hk22
  refine Gn [] [0, 2, 4, 8, 9, 10, 11, 31] <| GI_end <| X_then <| Vi (ord x19 < 0) (fun hc24 => ?_) (fun hc24 => ?_)
  ·
   refine V_region ?_
   have hw25 : i64.wrap ((((lo + hi) / 2 : Nat) : Int) + 1) = (((lo + hi) / 2 + 1 : Nat) : Int) := wrp
   refine On 2 [0, 2, 4, 8, 10, 33] <| Oq (u := nt (i64.wrap ((((lo + hi) / 2 : Nat) : Int) + 1))) (v := nt (((lo + hi) / 2 + 1 : Nat) : Int)) 33 (by rw [hw25]) <| Os 3 [(0, sl_ b18 o18 xs.length cap),(2, .func (.func F) #[] #[]),(4, pt b1),(8, nt (xs.length : Int)),(9, nt (((lo + hi) / 2 + 1 : Nat) : Int)),(10, nt (hi : Int))] <| OI_end rfl <| X_block ?_
   exact V_again (hi - ((lo + hi) / 2 + 1)) (by omega) [(0, sl_ b18 o18 xs.length cap),(2, .func (.func F) #[] #[]),(4, pt b1),(8, nt (xs.length : Int)),(9, nt (((lo + hi) / 2 + 1 : Nat) : Int)),(10, nt (hi : Int))] rfl ⟨(lo + hi) / 2 + 1, hi, by omega, by omega, by omega, fun j y hj hy => hm j ((lo + hi) / 2) y x19 (by omega) hy hx20 hc24, haft, hk5, rfl⟩
  refine V_region <| Os 2 [(0, sl_ b18 o18 xs.length cap),(2, .func (.func F) #[] #[]),(4, pt b1),(8, nt (xs.length : Int)),(9, nt (lo : Int)),(10, nt (((lo + hi) / 2 : Nat) : Int))] <| OI_end rfl <| X_block ?_
  exact V_again ((lo + hi) / 2 - lo) (by omega) [(0, sl_ b18 o18 xs.length cap),(2, .func (.func F) #[] #[]),(4, pt b1),(8, nt (xs.length : Int)),(9, nt (lo : Int)),(10, nt (((lo + hi) / 2 : Nat) : Int))] rfl ⟨lo, (lo + hi) / 2, by omega, by omega, by omega, hbef, fun j y hj hy hlt => hc24 (hm ((lo + hi) / 2) j x19 y (by omega) hx20 hy hlt), hk5, rfl⟩
 refine V_exit <| X_exit_then <| X_exit_then <| X_exit_here <| X_then <| V_seq <| Vd1 (acts [11]) none_ [1, 2, 3, 4, 5, 6, 7, 8, 9, 10, 11, 0, 12, 13, 14, 15] fun w27 hk26 he28 K31 _ => ?_
 replace hb1 := hb1.k0 hk26
 replace hA := hA.keep0 hk26
 replace hK0 := hK0.tn hk26
 have qhb1 := hb1
 refine Gn [5, 6, 7, 8, 9, 10, 11, 0, 12, 13, 14, 15] [0, 2, 4, 9, 39] ?_
 by_cases hg32 : (lo : Int) < (xs.length : Int)
 ·
  refine Et 39 hg32 <| Gn [8, 9, 10, 11, 0, 12, 13, 14, 15] [4, 9, 39, 40, 41, 42] ?_
  obtain ⟨b33, o33, L33, T33, rfl, hat33⟩ := SlT.opn hA
  have hb33lt := hat33.blk.lt
  refine Gi (b := b33) (o := o33) (len := xs.length) (cap := cap) (j := lo) 147 47 152 .i64 ?_
  obtain ⟨x34, hx35⟩ := exAt (xs := xs) (i := lo)
  refine Ma (o33 + lo * 47) (Ci.cells x34) 47 hat33.blk id (At.elem' hat33 (es_at hx35)) (At.len hat33 (es_at hx35)) <| Ma 0 kl 2 qhb1 id (take_all hkl) hkl <| GI_call0 { callee := (Callee.value (Operand.tmp 40)), args := #[(Operand.tmp 44),(Operand.tmp 45)], argTypes := #[147, 145] } F #[.agg (Ci.cells x34).toArray, .agg kl.toArray] (some 46) (by kernel_rfl) (by kernel_rfl) (by kernel_rfl) (by kernel_rfl) hb (hF x34 _) ?_
  rintro _ w36 ⟨rfl, hk37⟩
  refine ⟨_, rfl, ?_⟩
  have hsz38 := Keep.size hk37
  replace hK0 := hK0.tn hk37
  refine Gn [] [6, 7] <| GI_end <| X_then <| V_ret ?_
  have hlh : lo = hi := by omega
  subst hlh
  exact Xr (.tuple #[nt (lo : Int), .bool (decide (ord x34 = 0))]) ⟨lo, _, rfl, hK0, by omega, hbef, haft, (by rw [hx35])⟩
 refine Ef 39 hg32 <| Gn [] [6, 7] <| GI_end <| X_then <| V_ret ?_
 have hlh : lo = hi := by omega
 subst hlh
 exact Xr (.tuple #[nt (lo : Int), .bool false]) ⟨lo, _, rfl, hK0, by omega, hbef, haft, (by rw [List.getElem?_eq_none (by omega)])⟩
end Go.Al.GQ
namespace Go.Al.GQ
open Go Go.RowKit Go.Proofs
theorem clone_nil (w : World) : Calls Tryz.prog 79 #[.slice none 0 0] w fun e w' => e = .returned (.slice none 0 0) ∧ w' = w := by
 refine eV ?_
 refine Vr <| On 1 [0] <| Oe <| V_seq <| Vn [0, 4] <| Vo <| Vs [(2, .slice none 0 0)] <| Rt ?_
 exact X_return _ rfl ⟨rfl, rfl⟩
theorem clone_at (b o cap : Nat) (L : List Value) (T : TypeId) (xs : List Ci) (w : World) (h : At w b o L T 47 cap (xs.map Ci.cells)) (hn : xs.length ≤ 1000000) : Calls Tryz.prog 79 #[sl_ b o xs.length cap] w fun e w' => ∃ A' cap', e = .returned (.slice A' xs.length cap') ∧ SlT w' 47 Ci.cells A' cap' xs ∧ Keep none_ w w' ∧ (∀ k, inA A' k → w.heap.size ≤ k) := by
 have hblt := h.blk.lt
 have hK0 := Keep.refl none_ w
 refine eV ?_
 refine Vr <| On 1 [0] <| Oe <| V_seq <| Vn [0, 4] <| Vf <| Vsk <| Vr <| OI_slit (E := 147) (zv := .agg #[nt 0, nt 0, nt 0, nt 0, .int .u8 0, .int .u8 0, .int .u8 0, .int .u8 0, .int .u8 0, .int .u8 0, .int .u8 0, .int .u8 0, .int .u8 0, .int .u8 0, .int .u8 0, .int .u8 0, .int .u8 0, .int .u8 0, .int .u8 0, .int .u8 0, .int .u8 0, .int .u8 0, .int .u8 0, .int .u8 0, .int .u8 0, .int .u8 0, .int .u8 0, .int .u8 0, .int .u8 0, .int .u8 0, .int .u8 0, .int .u8 0, .int .u8 0, .int .u8 0, .int .u8 0, .int .u8 0, nt 0, nt 0, nt 0, .bool false, nt 0, nt 0, nt 0, nt 0, nt 0, nt 0, nt 0]) (sz := 47) (by_ := 152) 148 0 #[] [] [] (some 5) (by kernel_rfl) (by kernel_rfl) (by kernel_rfl) (by omega) rfl (by omega) (by intro v hv; cases hv) (by kernel_rfl) rfl ?_
 intro b1 w1 e1 hb1 k1 z1
 have hsz2 := Keep.size k1
 replace h := h.k0 k1
 replace hK0 := hK0.tn k1
 have hb1lt := hb1.lt
 refine Os 2 [(5, sl_ b1 0 0 0),(6, sl_ b o xs.length cap)] <| OI_append (t := 148) (at2 := 148) (E := 147) (E2 := 147) (sz := 47) (by_ := 152) (zv := .agg #[nt 0, nt 0, nt 0, nt 0, .int .u8 0, .int .u8 0, .int .u8 0, .int .u8 0, .int .u8 0, .int .u8 0, .int .u8 0, .int .u8 0, .int .u8 0, .int .u8 0, .int .u8 0, .int .u8 0, .int .u8 0, .int .u8 0, .int .u8 0, .int .u8 0, .int .u8 0, .int .u8 0, .int .u8 0, .int .u8 0, .int .u8 0, .int .u8 0, .int .u8 0, .int .u8 0, .int .u8 0, .int .u8 0, .int .u8 0, .int .u8 0, .int .u8 0, .int .u8 0, .int .u8 0, .int .u8 0, nt 0, nt 0, nt 0, .bool false, nt 0, nt 0, nt 0, nt 0, nt 0, nt 0, nt 0]) (m := 0) (k := xs.length) (.tmp 5) (.tmp 6) (sl_ b1 0 0 0) (sl_ b o xs.length cap) (some 7) (by kernel_rfl) (by kernel_rfl) (by kernel_rfl) (by kernel_rfl) (by kernel_rfl) (by kernel_rfl) (by kernel_rfl) (SlT.slr (slt_blk (f := Ci.cells) (xs := []) hb1 Ci.len rfl)) (SlT.slr (At.slt h)) (one_flat Ci.one) (by omega) (by omega) (by omega) (by omega) ?_
 intro v w9 hap
 obtain ⟨A9, cap9, rfl, h9, hin⟩ := SlT.of (xs := xs) hap.holds (by omega) (by simp) (fun x _ => Ci.len x)
 have hk9 : Keep (only b1) w1 w9 := hap.keep
 have hown : ∀ k, inA A9 k → w.heap.size ≤ k := fun k hk => by rcases hap.own k (hin k hk) with h | h; (have h : k = b1 := h; omega); omega
 have hsz3 := Keep.size hk9
 replace hK0 := Keep.fr hK0 hk9
 refine Op_ [(7, .slice A9 (0 + xs.length) cap9)] <| Oq (u := .slice A9 (0 + xs.length) cap9) (v := .slice A9 xs.length cap9) 7 (by rw [Nat.zero_add]) <| Ose [(2, .slice A9 xs.length cap9)] <| V_ret ?_
 exact X_return _ rfl ⟨A9, cap9, rfl, h9, hK0, hown⟩
theorem clone_spec (A : Option Addr) (cap : Nat) (xs : List Ci) (w : World) (hA : SlT w 47 Ci.cells A cap xs) (hn : xs.length ≤ 1000000) : Calls Tryz.prog 79 #[.slice A xs.length cap] w fun e w' => ∃ A' cap', e = .returned (.slice A' xs.length cap') ∧ SlT w' 47 Ci.cells A' cap' xs ∧ Keep none_ w w' ∧ (∀ k, inA A' k → w.heap.size ≤ k) := by
  rcases Nat.eq_zero_or_pos xs.length with h0 | h0
  · obtain rfl := List.length_eq_zero_iff.1 h0
    rcases hA with ⟨rfl, rfl, _⟩ | ⟨b, o, L, T, rfl, h1, h2, h3, h4, h5⟩
    · exact (clone_nil w).mono (by rintro e w' ⟨rfl, rfl⟩; exact ⟨none, 0, rfl, SlT.nil _ _ _, Keep.refl _ _, fun k hk => (inA_none hk).elim⟩)
    · exact clone_at b o cap L T [] w ⟨h1, h2, h3, h4, h5⟩ hn
  · obtain ⟨b, o, L, T, rfl, h⟩ := hA.open_ h0
    exact clone_at b o cap L T xs w h hn
theorem insert_nil (vb : Nat) (x : Ci) (w : World) (hv : Blk w vb (Ci.cells x) 147) : Calls Tryz.prog 80 #[.slice none 0 0, nt 0, sl_ vb 0 1 1] w fun e w' => ∃ A' cap', e = .returned (.slice A' 1 cap') ∧ SlT w' 47 Ci.cells A' cap' [x] ∧ Keep none_ w w' ∧ (∀ k, inA A' k → w.heap.size ≤ k) := by
 have hvblt := hv.lt
 have hK0 := Keep.refl none_ w
 refine eV ?_
 refine Vr <| On 1 [0, 1, 2] <| Oer <| On 2 [0, 1, 2, 10, 11] <| OI_pure (some 12) ((Op.slice 148 (Operand.tmp 10) (some (Operand.tmp 11)) none none)) (by kernel_rfl) (pure_slice (E := 147) (sz := 47) (by_ := 152) (base := none) (len := 0) (cap := 0) (lo := (some (.tmp 11))) (hi := none) (l := 0) (h := 0) (by kernel_rfl) (by kernel_rfl) ⟨.i64, by kernel_rfl⟩ rfl (by omega) (by omega)) <| Op_ [(0, .slice none 0 0),(1, nt 0),(2, sl_ vb 0 1 1)] <| Oer <| On 3 [0, 1, 2, 7] <| Oe <| V_seq <| Vn [0, 1, 2, 7, 16] <| Vf <| Vsk <| Vr <| On 3 [0, 1, 2, 7, 8] <| Oe <| V_seq <| Vn [0, 1, 2, 7, 8, 22] <| Vo <| Vr <| Os 2 [(23, .slice none 0 0),(24, sl_ vb 0 1 1)] <| OI_append (t := 148) (at2 := 148) (E := 147) (E2 := 147) (sz := 47) (by_ := 152) (zv := .agg #[nt 0, nt 0, nt 0, nt 0, .int .u8 0, .int .u8 0, .int .u8 0, .int .u8 0, .int .u8 0, .int .u8 0, .int .u8 0, .int .u8 0, .int .u8 0, .int .u8 0, .int .u8 0, .int .u8 0, .int .u8 0, .int .u8 0, .int .u8 0, .int .u8 0, .int .u8 0, .int .u8 0, .int .u8 0, .int .u8 0, .int .u8 0, .int .u8 0, .int .u8 0, .int .u8 0, .int .u8 0, .int .u8 0, .int .u8 0, .int .u8 0, .int .u8 0, .int .u8 0, .int .u8 0, .int .u8 0, nt 0, nt 0, nt 0, .bool false, nt 0, nt 0, nt 0, nt 0, nt 0, nt 0, nt 0]) (m := 0) (k := 1) (.tmp 23) (.tmp 24) (.slice none 0 0) (sl_ vb 0 1 1) (some 25) (by kernel_rfl) (by kernel_rfl) (by kernel_rfl) (by kernel_rfl) (by kernel_rfl) (by kernel_rfl) (by kernel_rfl) (.inl ⟨rfl, rfl, rfl⟩) (slr_one hv (Ci.len _)) (Ci.one _) (by omega) (by omega) (by omega) (by omega) ?_
 intro v w9 hap
 obtain ⟨A9, cap9, rfl, h9, hin⟩ := SlT.of (xs := [x]) hap.holds rfl (by simp) (fun x _ => Ci.len x)
 have hk9 : Keep none_ w w9 := hap.keep
 have hown : ∀ k, inA A9 k → w.heap.size ≤ k := fun k hk => by rcases hap.own k (hin k hk) with h | h; exact h.elim; exact h
 have hsz1 := Keep.size hk9
 replace hK0 := hK0.tn hk9
 refine Op_ [(25, .slice A9 (0 + 1) cap9)] <| Oq (u := .slice A9 (0 + 1) cap9) (v := .slice A9 1 cap9) 25 (by rw [Nat.zero_add]) <| Ose [(6, .slice A9 1 cap9)] <| Rt ?_
 exact X_return _ rfl ⟨A9, cap9, rfl, h9, hK0, hown⟩
theorem insert_at (b o cap vb i : Nat) (L : List Value) (T : TypeId) (xs : List Ci) (x : Ci) (w : World) (h : At w b o L T 47 cap (xs.map Ci.cells)) (hv : Blk w vb (Ci.cells x) 147) (hne : vb ≠ b) (hi : i ≤ xs.length) (hn : xs.length ≤ 1000000) : Calls Tryz.prog 80 #[sl_ b o xs.length cap, nt (i : Int), sl_ vb 0 1 1] w fun e w' => ∃ A' cap', e = .returned (.slice A' (xs.length + 1) cap') ∧ SlT w' 47 Ci.cells A' cap' (xs.take i ++ x :: xs.drop i) ∧ Keep (only b) w w' ∧ (∀ k, inA A' k → k = b ∨ w.heap.size ≤ k) := by
 have hblt := h.blk.lt
 have hvblt := hv.lt
 have hle : xs.length ≤ cap := by simpa using h.le
 have hK0 : Keep (only b) w w := Keep.refl _ _
 refine eV ?_
 refine Vr <| On 1 [0, 1, 2] <| Oer <| On 2 [0, 1, 2, 10, 11] <| OI_pure (some 12) ((Op.slice 148 (Operand.tmp 10) (some (Operand.tmp 11)) none none)) (by kernel_rfl) (pure_slice (E := 147) (sz := 47) (by_ := 152) (base := (some ⟨b, o, none⟩)) (len := xs.length) (cap := cap) (lo := (some (.tmp 11))) (hi := none) (l := i) (h := xs.length) (by kernel_rfl) (by kernel_rfl) ⟨.i64, by kernel_rfl⟩ rfl (by omega) (by omega)) <| Op_ [(0, sl_ b o xs.length cap),(1, nt (i : Int)),(2, sl_ vb 0 1 1)] <| Oer <| On 3 [0, 1, 2, 7] <| Oe <| V_seq <| Vn [0, 1, 2, 7, 16] <| Vf <| Vsk <| Vr <| On 3 [0, 1, 2, 7, 8] <| Oe <| V_seq <| Vn [0, 1, 2, 7, 8, 22] <| Vi ((i : Int) = (xs.length : Int)) (fun hc1 => ?_) (fun hc1 => ?_)
 ·
  refine Vr <| On 2 [23, 24] ?_
  obtain rfl : i = xs.length := by omega
  refine OI_append (t := 148) (at2 := 148) (E := 147) (E2 := 147) (sz := 47) (by_ := 152) (zv := .agg #[nt 0, nt 0, nt 0, nt 0, .int .u8 0, .int .u8 0, .int .u8 0, .int .u8 0, .int .u8 0, .int .u8 0, .int .u8 0, .int .u8 0, .int .u8 0, .int .u8 0, .int .u8 0, .int .u8 0, .int .u8 0, .int .u8 0, .int .u8 0, .int .u8 0, .int .u8 0, .int .u8 0, .int .u8 0, .int .u8 0, .int .u8 0, .int .u8 0, .int .u8 0, .int .u8 0, .int .u8 0, .int .u8 0, .int .u8 0, .int .u8 0, .int .u8 0, .int .u8 0, .int .u8 0, .int .u8 0, nt 0, nt 0, nt 0, .bool false, nt 0, nt 0, nt 0, nt 0, nt 0, nt 0, nt 0]) (m := xs.length) (k := 1) (.tmp 23) (.tmp 24) (sl_ b o xs.length cap) (sl_ vb 0 1 1) (some 25) (by kernel_rfl) (by kernel_rfl) (by kernel_rfl) (by kernel_rfl) (by kernel_rfl) (by kernel_rfl) (by kernel_rfl) (SlT.slr (At.slt h)) (slr_one hv (Ci.len _)) (Ci.one _) (by omega) (by omega) (by omega) (by omega) ?_
  intro v w9 hap
  obtain ⟨A9, cap9, rfl, h9, hin⟩ := SlT.of (xs := xs.take xs.length ++ x :: xs.drop xs.length) hap.holds (by simp) (by simp) (fun x _ => Ci.len x)
  have hk9 : Keep (only b) w w9 := hap.keep
  have hown : ∀ k, inA A9 k → k = b ∨ w.heap.size ≤ k := fun k hk => hap.own k (hin k hk)
  have hsz2 := Keep.size hk9
  replace hK0 := Keep.fr hK0 hk9
  refine Ose [(6, .slice A9 (xs.length + 1) cap9)] <| Rt ?_
  exact X_return _ rfl ⟨A9, cap9, rfl, h9, hK0, hown⟩
 refine Vsk <| V_seq <| Vr ?_
 have hw3 : i64.wrap ((xs.length : Int) + 1) = ((xs.length + 1 : Nat) : Int) := wrp
 refine On 3 [0, 1, 2, 7, 8, 28] <| Oq (u := nt (i64.wrap ((xs.length : Int) + 1))) (v := nt ((xs.length + 1 : Nat) : Int)) 28 (by rw [hw3]) <| Oen [0, 1, 2, 7, 8, 31] <| Vi (((xs.length + 1 : Nat) : Int) > (cap : Int)) (fun hc4 => ?_) (fun hc4 => ?_)
 ·
  refine Vr <| On 2 [0, 1, 2, 7, 8, 32, 33] <| Ost (base := (some ⟨b, o, none⟩)) (len := xs.length) (cap := cap) (j := i) 147 47 152 ?_
  have hw5 : i64.wrap ((xs.length : Int) + 1) = ((xs.length + 1 : Nat) : Int) := wrp
  refine On 6 [0, 1, 2, 7, 34, 37] <| Oq (u := nt (i64.wrap ((xs.length : Int) + 1))) (v := nt ((xs.length + 1 : Nat) : Int)) 37 (by rw [hw5]) ?_
  have hw6 : i64.wrap (((xs.length + 1 : Nat) : Int) - (i : Int)) = ((xs.length + 1 - i : Nat) : Int) := wrp
  refine On 8 [0, 1, 2, 7, 34, 39] <| Oq (u := nt (i64.wrap (((xs.length + 1 : Nat) : Int) - (i : Int)))) (v := nt ((xs.length + 1 - i : Nat) : Int)) 39 (by rw [hw6]) <| OI_appmake (t := 148) (E := 147) (at2 := 3) (sz := 47) (by_ := 152) (m := i) (k := xs.length + 1 - i) (N := xs.length + 1) (kd := .i64) (zv := .agg #[nt 0, nt 0, nt 0, nt 0, .int .u8 0, .int .u8 0, .int .u8 0, .int .u8 0, .int .u8 0, .int .u8 0, .int .u8 0, .int .u8 0, .int .u8 0, .int .u8 0, .int .u8 0, .int .u8 0, .int .u8 0, .int .u8 0, .int .u8 0, .int .u8 0, .int .u8 0, .int .u8 0, .int .u8 0, .int .u8 0, .int .u8 0, .int .u8 0, .int .u8 0, .int .u8 0, .int .u8 0, .int .u8 0, .int .u8 0, .int .u8 0, .int .u8 0, .int .u8 0, .int .u8 0, .int .u8 0, nt 0, nt 0, nt 0, .bool false, nt 0, nt 0, nt 0, nt 0, nt 0, nt 0, nt 0]) (s := sl_ b o i cap) (base := some ⟨b, o, none⟩) (cap := cap) (.tmp 34) (.tmp 39) (some 40) (by kernel_rfl) (by kernel_rfl) (by kernel_rfl) (by kernel_rfl) (by kernel_rfl) (by kernel_rfl) rfl (At.prefT h hi) (by omega) (by omega) (by omega) (by omega) (by kernel_rfl) (by omega) ?_
  intro b9 nc zs w9 hb9 hnc hzs hB9 hk9 hz9
  have hsz7 := Keep.size hk9
  replace hv := hv.k0 hk9
  replace h := h.k0 hk9
  replace hK0 := hK0.tn hk9
  have hb9lt := hB9.lt
  obtain ⟨g1, g2, g3, g4, g5⟩ := grow_cells (sz := 47) (n := xs.length) (i := i) (nc := nc) (c := Ci.cells x) (zs := zs) (es := xs.map Ci.cells) h.sizes (by simp) hi (by omega) (Ci.len x) hzs
  refine On 10 [0, 1, 2, 7, 9] <| Oer <| On 2 [0, 1, 2, 7, 9, 41, 42] <| Osf (b := b9) (o := 0) (len := xs.length + 1) (cap := nc) (j := i) 147 47 152 <| Os 4 [(0, sl_ b o xs.length cap),(1, nt (i : Int)),(7, nt 1),(9, sl_ b9 0 (xs.length + 1) nc),(43, .slice (some ⟨b9, 0 + i * 47, none⟩) (xs.length + 1 - i) (nc - i)),(44, sl_ vb 0 1 1)] <| OI_turn (some 45) ((Op.call { callee := (Callee.builtin Builtin.copy), args := #[(Operand.tmp 43),(Operand.tmp 44)], argTypes := #[148, 148] })) (by kernel_rfl) (Blk.lt hB9) (copy_run (t := 148) (E := 147) (at2 := 148) (sz := 47) (by_ := 152) (b := b9) (o := 0 + i * 47) (dl := xs.length + 1 - i) (dc := nc - i) (k := 1) (m := 1) (cells := Ci.cells x) (x := (.tmp 43)) (y := (.tmp 44)) (by kernel_rfl) (by kernel_rfl) hB9 (slr_one hv (Ci.len _)) (by omega) (by omega) (fun u hu => Ci.one _ u (List.mem_of_mem_take hu))) ?_
  intro w8 hB9 hk9 hz10
  replace hB9 : Blk w8 b9 (over (((xs.map Ci.cells).take i).flatten ++ zs) (i * 47) (Ci.cells x)) 147 := by rwa [show (Ci.cells x).take (1 * 47) = Ci.cells x from List.take_of_length_le (by rw [Ci.len]; omega), Nat.zero_add] at hB9
  have hsz11 := Keep.size hk9
  replace h := h.k1 hk9
  replace hK0 := Keep.fr hK0 hk9
  refine Oe <| V_seq <| Vd1 (acts [8]) (only b9) [0, 1, 2, 3, 4, 5, 6, 7, 8] fun w13 hk12 he14 K17 _ => ?_
  replace hB9 := hB9.k0 hk12
  replace h := h.k0 hk12
  replace hK0 := hK0.tn hk12
  have hw18 : i64.wrap ((i : Int) + 1) = ((i + 1 : Nat) : Int) := wrp
  refine Gn [4, 5, 6, 7, 8] [0, 1, 9, 46, 49] <| Gq_ (u := nt (i64.wrap ((i : Int) + 1))) (v := nt ((i + 1 : Nat) : Int)) 49 (by rw [hw18]) <| Gsf (b := b9) (o := 0) (len := xs.length + 1) (cap := nc) (j := i + 1) 147 47 152 <| Gs [7, 8] [(9, sl_ b9 0 (xs.length + 1) nc),(50, .slice (some ⟨b9, 0 + (i + 1) * 47, none⟩) (xs.length + 1 - (i + 1)) (nc - (i + 1))),(51, sl_ b o xs.length cap),(52, nt (i : Int))] <| Gsf (b := b) (o := o) (len := xs.length) (cap := cap) (j := i) 147 47 152 <| GI_final 8 (by kernel_rfl) (by kernel_rfl) <| OI_turn (some 54) ((Op.call { callee := (Callee.builtin Builtin.copy), args := #[(Operand.tmp 50),(Operand.tmp 53)], argTypes := #[148, 148] })) (by kernel_rfl) (Blk.lt hB9) (copy_run (t := 148) (E := 147) (at2 := 148) (sz := 47) (by_ := 152) (b := b9) (o := 0 + (i + 1) * 47) (dl := xs.length + 1 - (i + 1)) (dc := nc - (i + 1)) (k := xs.length - i) (m := xs.length - i) (cells := ((xs.map Ci.cells).drop i).flatten) (x := (.tmp 50)) (y := (.tmp 53)) (by kernel_rfl) (by kernel_rfl) hB9 (At.suffT h hi) (by omega) (by omega) (fun u hu => one_flatten Ci.one u (by rw [List.map_drop]; exact List.mem_of_mem_take hu))) ?_
  intro w19 hB9 hk20 hz21
  replace hB9 : Blk w19 b9 (over (over (((xs.map Ci.cells).take i).flatten ++ zs) (i * 47) (Ci.cells x)) ((i + 1) * 47) ((xs.map Ci.cells).drop i).flatten) 147 := by rwa [show ((xs.map Ci.cells).drop i).flatten.take ((xs.length - i) * 47) = ((xs.map Ci.cells).drop i).flatten from List.take_of_length_le (by omega), Nat.zero_add] at hB9
  have hsz22 := Keep.size hk20
  replace hK0 := Keep.fr hK0 hk20
  refine Oer <| Ose [(6, sl_ b9 0 (xs.length + 1) nc)] <| Rt ?_
  exact X_return _ rfl ⟨_, nc, rfl, ins_slt hB9 hi (by omega) (by rw [g3, g4]; omega) (by rw [List.length_map]; exact g2) Ci.len, hK0, fun k hk => .inr (by rw [inA_some hk]; omega)⟩
 refine Vsk <| Vr ?_
 have hw23 : i64.wrap ((xs.length : Int) + 1) = ((xs.length + 1 : Nat) : Int) := wrp
 refine On 4 [1, 2, 7, 8, 56, 59] <| Oq (u := nt (i64.wrap ((xs.length : Int) + 1))) (v := nt ((xs.length + 1 : Nat) : Int)) 59 (by rw [hw23]) <| Ost (base := (some ⟨b, o, none⟩)) (len := xs.length) (cap := cap) (j := xs.length + 1) 147 47 152 <| On 6 [0, 1, 2, 7, 8] <| Oe <| V_seq <| Vr ?_
 have hw24 : i64.wrap ((i : Int) + 1) = ((i + 1 : Nat) : Int) := wrp
 refine Os 5 [(0, sl_ b o (xs.length + 1) cap),(1, nt (i : Int)),(2, sl_ vb 0 1 1),(7, nt 1),(8, nt (xs.length : Int)),(61, sl_ vb 0 1 1),(62, sl_ b o (xs.length + 1) cap),(65, nt (i64.wrap ((i : Int) + 1)))] <| Oq (u := nt (i64.wrap ((i : Int) + 1))) (v := nt ((i + 1 : Nat) : Int)) 65 (by rw [hw24]) <| Osf (b := b) (o := o) (len := xs.length + 1) (cap := cap) (j := i + 1) 147 47 152 <| OI_value (d := some 67) (op := (Op.call (kL 104 #[(.tmp 61),(.tmp 66)] #[148, 148]))) (v := .bool false) (by kernel_rfl) (overlaps_run (f := 104) (fn := Tryz.f104) (tS := 148) (tR := 4) (E := 147) (sz := 47) (by_ := 152) (vb := vb) (vo := 0) (b := b) (o := o + (i + 1) * 47) (la := 1) (ca := 1) (lb := xs.length + 1 - (i + 1)) (cb := cap - (i + 1)) rfl (by kernel_rfl) (by kernel_rfl) (by kernel_rfl) (by kernel_rfl) (by kernel_rfl) (by kernel_rfl) hne hv (At.blk h) (by intro hL; have := h.room; rw [hL] at this; simp at this; omega)) <| Oen [0, 1, 2, 7, 8, 68] <| Vo <| V_seq <| Vd1 (acts [8]) (only b) [0, 1, 2, 3, 4, 5, 6, 7, 8] fun w26 hk25 he27 K30 _ => ?_
 replace hv := hv.k0 hk25
 replace h := h.k0 hk25
 replace hK0 := hK0.tn hk25
 have hw31 : i64.wrap ((i : Int) + 1) = ((i + 1 : Nat) : Int) := wrp
 refine Gn [4, 5, 6, 7, 8] [0, 1, 2, 69, 72] <| Gq_ (u := nt (i64.wrap ((i : Int) + 1))) (v := nt ((i + 1 : Nat) : Int)) 72 (by rw [hw31]) <| Gsf (b := b) (o := o) (len := xs.length + 1) (cap := cap) (j := i + 1) 147 47 152 <| Gs [7, 8] [(0, sl_ b o (xs.length + 1) cap),(1, nt (i : Int)),(2, sl_ vb 0 1 1),(73, .slice (some ⟨b, o + (i + 1) * 47, none⟩) (xs.length + 1 - (i + 1)) (cap - (i + 1))),(74, sl_ b o (xs.length + 1) cap),(75, nt (i : Int))] <| Gsf (b := b) (o := o) (len := xs.length + 1) (cap := cap) (j := i) 147 47 152 <| GI_final 8 (by kernel_rfl) (by kernel_rfl) ?_
 obtain ⟨g1, g2, g3⟩ := ins_cells (i := i) (c := Ci.cells x) h (by simp; omega) (by simp; omega) (Ci.len x)
 have hdc := h.dropcells (i := i)
 have hroom := h.room
 rw [List.length_map] at g1 g2 g3 hdc
 have hdl : ((L.drop (o + i * 47)).take ((xs.length + 1 - i) * 47)).take ((xs.length - i) * 47) = (L.drop (o + i * 47)).take ((xs.length - i) * 47) := by rw [List.take_take, Nat.min_eq_left (by omega)]
 refine OI_turn (some 77) ((Op.call { callee := (Callee.builtin Builtin.copy), args := #[(Operand.tmp 73),(Operand.tmp 76)], argTypes := #[148, 148] })) (by kernel_rfl) (Blk.lt (At.blk h)) (copy_run (t := 148) (E := 147) (at2 := 148) (sz := 47) (by_ := 152) (b := b) (o := o + (i + 1) * 47) (dl := xs.length + 1 - (i + 1)) (dc := cap - (i + 1)) (k := xs.length + 1 - i) (m := xs.length - i) (cells := (L.drop (o + i * 47)).take ((xs.length + 1 - i) * 47)) (x := (.tmp 73)) (y := (.tmp 76)) (by kernel_rfl) (by kernel_rfl) (At.blk h) (slr_blk (At.blk h) (by omega) (by omega)) (by omega) (by omega) (fun u hu => one_flatten (xs := xs.drop i) Ci.one u (by rw [List.map_drop, ← hdc, ← hdl]; exact hu))) ?_
 intro w32 hB hk33 hz34
 replace hB : Blk w32 b (over L (o + (i + 1) * 47) ((L.drop (o + i * 47)).take ((xs.length - i) * 47))) T := by rwa [hdl] at hB
 have hsz35 := Keep.size hk33
 replace hv := hv.k1 hk33
 replace hK0 := Keep.fr hK0 hk33
 refine Oer <| On 2 [0, 2, 78, 79] <| Osf (b := b) (o := o) (len := xs.length + 1) (cap := cap) (j := i) 147 47 152 <| Os 4 [(0, sl_ b o (xs.length + 1) cap),(80, .slice (some ⟨b, o + i * 47, none⟩) (xs.length + 1 - i) (cap - i)),(81, sl_ vb 0 1 1)] <| OI_turn (some 82) ((Op.call { callee := (Callee.builtin Builtin.copy), args := #[(Operand.tmp 80),(Operand.tmp 81)], argTypes := #[148, 148] })) (by kernel_rfl) (Blk.lt hB) (copy_run (t := 148) (E := 147) (at2 := 148) (sz := 47) (by_ := 152) (b := b) (o := o + i * 47) (dl := xs.length + 1 - i) (dc := cap - i) (k := 1) (m := 1) (cells := Ci.cells x) (x := (.tmp 80)) (y := (.tmp 81)) (by kernel_rfl) (by kernel_rfl) hB (slr_one hv (Ci.len _)) (by omega) (by omega) (fun u hu => Ci.one _ u (List.mem_of_mem_take hu))) ?_
 intro w36 hB hk37 hz38
 replace hB : Blk w36 b (over (over L (o + (i + 1) * 47) ((L.drop (o + i * 47)).take ((xs.length - i) * 47))) (o + i * 47) (Ci.cells x)) T := by rwa [show (Ci.cells x).take (1 * 47) = Ci.cells x from List.take_of_length_le (by rw [Ci.len]; omega)] at hB
 have hsz39 := Keep.size hk37
 replace hK0 := Keep.fr hK0 hk37
 refine Oer <| Ose [(6, sl_ b o (xs.length + 1) cap)] <| Rt ?_
 exact X_return _ rfl ⟨_, cap, rfl, ins_slt hB hi (by omega) (by rw [g3]; omega) (by rw [List.length_map]; exact g2) Ci.len, hK0, fun k hk => .inl (inA_some hk)⟩
theorem insert_spec (A : Option Addr) (cap vb i : Nat) (xs : List Ci) (x : Ci) (w : World) (hA : SlT w 47 Ci.cells A cap xs) (hv : Blk w vb (Ci.cells x) 147) (hne : ¬ inA A vb) (hi : i ≤ xs.length) (hn : xs.length ≤ 1000000) : Calls Tryz.prog 80 #[.slice A xs.length cap, nt (i : Int), sl_ vb 0 1 1] w fun e w' => ∃ A' cap', e = .returned (.slice A' (xs.length + 1) cap') ∧ SlT w' 47 Ci.cells A' cap' (xs.take i ++ x :: xs.drop i) ∧ Keep (inA A) w w' ∧ (∀ k, inA A' k → inA A k ∨ w.heap.size ≤ k) := by
  rcases hA with ⟨rfl, rfl, h0⟩ | ⟨b, o, L, T, rfl, h1, h2, h3, h4, h5⟩
  · obtain rfl : xs = [] := by simpa using h0
    obtain rfl : i = 0 := by simpa using hi
    exact (insert_nil vb x w hv).mono (by rintro e w' ⟨A', cap', rfl, h1, h2, h3⟩; exact ⟨A', cap', rfl, h1, h2.ofNone, fun k hk => .inr (h3 k hk)⟩)
  · exact (insert_at b o cap vb i L T xs x w ⟨h1, h2, h3, h4, h5⟩ hv (fun h => hne ⟨_, rfl, h⟩) hi hn).mono (by
      rintro e w' ⟨A', cap', rfl, h1, h2, h3⟩
      exact ⟨A', cap', rfl, h1, h2.mono (fun k _ hk => ⟨_, rfl, hk⟩), fun k hk => (h3 k hk).imp (fun h => ⟨_, rfl, h⟩) id⟩)
end Go.Al.GQ
namespace Go.Al.GQ
open Go Go.RowKit Go.Proofs
def ltC (a b a' b' : Int) : Prop := a < a' ∨ (a = a' ∧ b < b')
instance (a b a' b' : Int) : Decidable (ltC a b a' b') := by unfold ltC; infer_instance
theorem ordC_neg (a b : Int) (c : Ci) : ordC a b c < 0 ↔ ltC c.a c.b a b := by
  unfold ordC ltC
  simp only [orI, cmpI]
  rcases Int.lt_trichotomy c.a a with h1 | h1 | h1 <;> rcases Int.lt_trichotomy c.b b with h2 | h2 | h2 <;> simp_all <;> (repeat' split) <;> omega
theorem ordC_zero (a b : Int) (c : Ci) : ordC a b c = 0 ↔ c.a = a ∧ c.b = b := by
  unfold ordC
  simp only [orI, cmpI]
  rcases Int.lt_trichotomy c.a a with h1 | h1 | h1 <;> rcases Int.lt_trichotomy c.b b with h2 | h2 | h2 <;> simp_all <;> (repeat' split) <;> omega
theorem ltC_trans {a b c d e f : Int} (h : ltC a b c d) (k : ltC c d e f) : ltC a b e f := by unfold ltC at *; omega
def Srt (cs : List Ci) : Prop := cs.Pairwise fun x y => ltC x.a x.b y.a y.b
theorem Srt.mono {cs : List Ci} (h : Srt cs) (a b : Int) (i j : Nat) (x y : Ci) (hij : i ≤ j) (hx : cs[i]? = some x) (hy : cs[j]? = some y) (hlt : ordC a b y < 0) : ordC a b x < 0 := by
  rw [ordC_neg] at *
  rcases Nat.lt_or_eq_of_le hij with hij | rfl
  · obtain ⟨h1, rfl⟩ := List.getElem?_eq_some_iff.1 hx
    obtain ⟨h2, rfl⟩ := List.getElem?_eq_some_iff.1 hy
    exact ltC_trans (List.pairwise_iff_getElem.1 h i j h1 h2 hij) hlt
  · rw [hx] at hy; cases hy; exact hlt
structure GrAt (w : World) (g : Nat) (A : Option Addr) (cap : Nat) (cs : List Ci) : Prop where
  blk : Blk w g [.slice A cs.length cap] 150
  sl : SlT w 47 Ci.cells A cap cs
  off : ¬ inA A g
def Gr (D : Nat → Prop) (w : World) (g : Nat) (cs : List Ci) : Prop := Srt cs ∧ cs.length ≤ 100000 ∧ ∃ A cap, GrAt w g A cap cs ∧ ∀ k, inA A k → D k
theorem place_spec (g cap : Nat) (A : Option Addr) (cs : List Ci) (a b : Int) (w : World) (h : GrAt w g A cap cs) (hs : Srt cs) (hn : cs.length ≤ 100000) : Calls Tryz.prog 64 #[pt g, nt a, nt b] w fun e w' => ∃ (i : Nat) (ok : Bool), e = .returned (.tuple #[nt (i : Int), .bool ok]) ∧ Keep none_ w w' ∧ i ≤ cs.length ∧ (∀ (j : Nat) y, j < i → cs[j]? = some y → ordC a b y < 0) ∧ (∀ (j : Nat) y, i ≤ j → cs[j]? = some y → ¬ ordC a b y < 0) ∧ ok = (match cs[i]? with | some y => decide (ordC a b y = 0) | none => false) := by
 have hg := h.blk
 have hA := h.sl
 have hglt := hg.lt
 have hK0 := Keep.refl none_ w
 refine eV ?_
 refine Vr <| On 2 [0, 1, 2] <| Oer <| On 3 [1, 2, 10] <| Lr 0 (.slice A cs.length cap) hg <| On 7 [11, 14] <| Kg (bsearch_spec A cap 92 cs [nt a, nt b] (ordC a b) _ hA rfl (by omega) (by kernel_rfl) (fun c w => place1_spec c a b w) (Srt.mono hs a b)) ?_
 rintro _ w1 ⟨i, bb, rfl, hk2, hi, hbef, haft, hbb⟩
 refine ⟨_, rfl, ?_⟩
 have hsz3 := Keep.size hk2
 replace hK0 := hK0.tn hk2
 refine Ose [(6, nt (i : Int)),(7, .bool bb)] <| V_ret ?_
 exact X_return _ rfl ⟨i, bb, rfl, hK0, hi, hbef, haft, hbb⟩
theorem new_spec (D : Nat → Prop) (w : World) : Calls Tryz.prog 45 #[] w fun e w' => ∃ g, e = .returned (pt g) ∧ Gr D w' g [] ∧ Keep none_ w w' ∧ w.heap.size ≤ g := by
 have hK0 := Keep.refl none_ w
 refine eV ?_
 refine Vr <| On 1 [] <| Oer <| On 1 [1] <| Bx 150 [.slice none 0 0] ?_
 intro b1 w1 e1 hb1 k1 z1
 have hsz2 := Keep.size k1
 replace hK0 := hK0.tn k1
 have hb1lt := hb1.lt
 refine Ose [(0, pt b1)] <| V_ret ?_
 exact X_return _ rfl ⟨_, rfl, ⟨List.Pairwise.nil, by simp, none, 0, ⟨hb1, SlT.nil _ _ _, fun h => inA_none h⟩, fun k hk => (inA_none hk).elim⟩, hK0, by omega⟩
theorem len_spec (D : Nat → Prop) (g : Nat) (cs : List Ci) (w : World) (h : Gr D w g cs) : Calls Tryz.prog 50 #[pt g] w fun e w' => e = .returned (nt (cs.length : Int)) ∧ w' = w := by
 obtain ⟨_, _, A, cap, h, _⟩ := h
 have hg := h.blk
 have hA := h.sl
 have hglt := hg.lt
 refine eV ?_
 refine Vr <| On 1 [0] <| Oe <| V_seq <| Vn [0, 4] <| Vf <| Vsk <| Vr <| On 3 [7] <| Lr 0 (.slice A cs.length cap) hg <| Ose [(2, nt (cs.length : Int))] <| V_ret ?_
 exact X_return _ rfl ⟨rfl, rfl⟩
def getC (a b : Int) : List Ci → Option Rfm
  | [] => none
  | x :: l => if x.a = a ∧ x.b = b then some x.v else getC a b l
def setC (a b : Int) (v : Rfm) : List Ci → List Ci
  | [] => [⟨a, b, v⟩]
  | x :: l => if x.a = a ∧ x.b = b then ⟨a, b, v⟩ :: l else if ltC x.a x.b a b then x :: setC a b v l else ⟨a, b, v⟩ :: x :: l
def delC (a b : Int) : List Ci → List Ci
  | [] => []
  | x :: l => if x.a = a ∧ x.b = b then l else x :: delC a b l
theorem none_later {a b : Int} : ∀ {l : List Ci}, (∀ y ∈ l, ltC a b y.a y.b) → getC a b l = none ∧ delC a b l = l
  | [], _ => ⟨rfl, rfl⟩
  | y :: l, h => by
    have hy := h y (List.mem_cons_self ..)
    have hne : ¬ (y.a = a ∧ y.b = b) := by unfold ltC at hy; omega
    obtain ⟨h1, h2⟩ := none_later (fun z hz => h z (List.mem_cons_of_mem _ hz))
    exact ⟨by simp only [getC, if_neg hne, h1], by simp only [delC, if_neg hne, h2]⟩
theorem place_at {a b : Int} : ∀ (cs : List Ci) (i : Nat), Srt cs → i ≤ cs.length → (∀ (j : Nat) y, j < i → cs[j]? = some y → ordC a b y < 0) → (∀ (j : Nat) y, i ≤ j → cs[j]? = some y → ¬ ordC a b y < 0) →
    (∃ y, cs[i]? = some y ∧ ordC a b y = 0 ∧ y.a = a ∧ y.b = b ∧ getC a b cs = some y.v ∧ (∀ v, cs.set i ⟨a, b, v⟩ = setC a b v cs) ∧ cs.take i ++ cs.drop (i + 1) = delC a b cs) ∨
    ((∀ y, cs[i]? = some y → ordC a b y ≠ 0) ∧ getC a b cs = none ∧ (∀ v, cs.take i ++ ⟨a, b, v⟩ :: cs.drop i = setC a b v cs) ∧ delC a b cs = cs)
  | [], i, _, hi, _, _ => by
    obtain rfl : i = 0 := by simpa using hi
    right; exact ⟨fun y hy => by simp at hy, rfl, fun v => rfl, rfl⟩
  | x :: l, 0, hs, _, _, h2 => by
    have hx := h2 0 x (Nat.le_refl _) rfl
    have hs := List.pairwise_cons.1 hs
    by_cases h0 : ordC a b x = 0
    · left
      have he := (ordC_zero a b x).1 h0
      exact ⟨x, rfl, h0, he.1, he.2, by simp only [getC, if_pos he], fun v => by simp only [List.set_cons_zero, setC, if_pos he], by simp only [delC, if_pos he]; simp⟩
    · right
      have hne : ¬ (x.a = a ∧ x.b = b) := fun h => h0 ((ordC_zero a b x).2 h)
      have hnl : ¬ ltC x.a x.b a b := fun h => hx ((ordC_neg a b x).2 h)
      have hgt : ltC a b x.a x.b := by unfold ltC at *; omega
      obtain ⟨h3, h4⟩ := none_later (a := a) (b := b) (l := l) (fun y hy => ltC_trans hgt (hs.1 y hy))
      refine ⟨fun y hy => by simp at hy; subst hy; exact h0, by simp only [getC, if_neg hne, h3], fun v => by simp only [setC, if_neg hne, if_neg hnl]; simp, by simp only [delC, if_neg hne, h4]⟩
  | x :: l, i + 1, hs, hi, h1, h2 => by
    have hx := h1 0 x (Nat.succ_pos _) rfl
    have hlt := (ordC_neg a b x).1 hx
    have hne : ¬ (x.a = a ∧ x.b = b) := by unfold ltC at hlt; omega
    have hs := List.pairwise_cons.1 hs
    rcases place_at l i hs.2 (by simpa using hi) (fun j y hj hy => h1 (j + 1) y (by omega) (by simpa using hy)) (fun j y hj hy => h2 (j + 1) y (by omega) (by simpa using hy)) with ⟨y, g1, g2, g3, g4, g5, g6, g7⟩ | ⟨g1, g2, g3, g4⟩
    · left; exact ⟨y, by simpa using g1, g2, g3, g4, by simp only [getC, if_neg hne, g5], fun v => by simp only [List.set_cons_succ, setC, if_neg hne, if_pos hlt, g6], by simp only [delC, if_neg hne, ← g7]; simp⟩
    · right; exact ⟨fun y hy => g1 y (by simpa using hy), by simp only [getC, if_neg hne, g2], fun v => by simp only [setC, if_neg hne, if_pos hlt, ← g3 v]; simp, by simp only [delC, if_neg hne, g4]⟩
theorem get_spec (D : Nat → Prop) (g : Nat) (cs : List Ci) (a b : Int) (w : World) (h : Gr D w g cs) : Calls Tryz.prog 29 #[pt g, nt a, nt b] w fun e w' => e = .returned (.tuple #[.agg (Rfm.cells ((getC a b cs).getD Rfm.zero)).toArray, .bool (getC a b cs).isSome]) ∧ Keep none_ w w' := by
 obtain ⟨hs, hlen, A, cap, h, _⟩ := h
 have hgA := h.off
 have hg := h.blk
 have hA := h.sl
 have hglt := hg.lt
 have hltA := SlT.lt hA
 have hK0 := Keep.refl none_ w
 refine enterM Tryz.func29 rfl [pt g, nt a, nt b] 30 rfl rfl rfl ?_
 refine Vp [(0, pt g),(1, nt a),(2, nt b)] <| Vr <| Alc_ 44 (.agg #[nt 0, nt 0, .int .u8 0, .int .u8 0, .int .u8 0, .int .u8 0, .int .u8 0, .int .u8 0, .int .u8 0, .int .u8 0, .int .u8 0, .int .u8 0, .int .u8 0, .int .u8 0, .int .u8 0, .int .u8 0, .int .u8 0, .int .u8 0, .int .u8 0, .int .u8 0, .int .u8 0, .int .u8 0, .int .u8 0, .int .u8 0, .int .u8 0, .int .u8 0, .int .u8 0, .int .u8 0, .int .u8 0, .int .u8 0, .int .u8 0, .int .u8 0, .int .u8 0, .int .u8 0, nt 0, nt 0, nt 0, .bool false, nt 0, nt 0, nt 0, nt 0, nt 0, nt 0, nt 0]) [nt 0, nt 0, .int .u8 0, .int .u8 0, .int .u8 0, .int .u8 0, .int .u8 0, .int .u8 0, .int .u8 0, .int .u8 0, .int .u8 0, .int .u8 0, .int .u8 0, .int .u8 0, .int .u8 0, .int .u8 0, .int .u8 0, .int .u8 0, .int .u8 0, .int .u8 0, .int .u8 0, .int .u8 0, .int .u8 0, .int .u8 0, .int .u8 0, .int .u8 0, .int .u8 0, .int .u8 0, .int .u8 0, .int .u8 0, .int .u8 0, .int .u8 0, .int .u8 0, .int .u8 0, nt 0, nt 0, nt 0, .bool false, nt 0, nt 0, nt 0, nt 0, nt 0, nt 0, nt 0] ?_
 intro b1 w1 e1 hb1 k1 z1
 have hsz2 := Keep.size k1
 replace hg := hg.k0 k1
 replace hA := hA.keep0 k1
 replace hK0 := hK0.tn k1
 have hb1lt := hb1.lt
 refine On 2 [0, 1, 2, 6] <| Oe <| V_seq <| Vn [0, 1, 2, 6, 10] <| Vf <| Vsk <| Vr <| On 3 [0, 6, 13, 14, 15] <| Kg (place_spec g cap A cs a b _ ⟨hg, hA, hgA⟩ hs hlen) ?_
 rintro _ w3 ⟨i, bb, rfl, hk4, hi, hbef, haft, hbb⟩
 refine ⟨_, rfl, ?_⟩
 have hsz5 := Keep.size hk4
 replace hg := hg.k0 hk4
 replace hb1 := hb1.k0 hk4
 replace hA := hA.keep0 hk4
 replace hK0 := hK0.tn hk4
 refine On 9 [0, 6, 7, 8] <| Oe <| V_seq <| Vn [0, 6, 7, 8, 19] <| Vb (bb) (fun hc6 => ?_) (fun hc6 => ?_)
 ·
  rcases place_at cs i hs hi hbef haft with ⟨y, g1, g2, g3, g4, g5, g6, g7⟩ | ⟨g1, _⟩
  rotate_left
  · exact absurd hc6 (by rw [hbb]; split <;> simp_all)
  have hilt := (List.getElem?_eq_some_iff.1 g1).1
  refine V_region <| On 3 [6, 7, 8, 22] <| Lr 0 (.slice A cs.length cap) hg <| On 5 [6, 7, 23, 24] ?_
  obtain ⟨b7, o7, L7, T7, rfl, hat7⟩ := SlT.opn hA
  have hb7lt := hat7.blk.lt
  have hob8 := hltA b7 ⟨_, rfl, rfl⟩
  refine Oi (b := b7) (o := o7) (len := cs.length) (cap := cap) (j := i) (some 25) 148 (.tmp 23) (.tmp 24) 147 47 152 .i64 <| On 7 [6, 7, 26] <| La (o7 + i * 47 + 2) (Rfm.cells y.v) 45 hat7.blk (At.sub hat7 (es_at g1) (by decide) rfl) (Rfm.len _) <| Sg 0 (Rfm.cells y.v) hb1 (Rfm.len _) (Rfm.one _) ?_
  intro w9 hb1_12 hk10 hz11
  replace hb1_12 : Blk w9 b1 (Rfm.cells y.v) 44 := (by rwa [over_whole (by rw [Rfm.len]; rfl)] at hb1_12)
  have hsz13 := Keep.size hk10
  replace hK0 := Keep.fr hK0 hk10
  refine Oer <| La 0 (Rfm.cells y.v) 45 hb1_12 (take_all (Rfm.len _)) (Rfm.len _) <| On 2 [6, 28, 29] <| Sg 0 (Rfm.cells y.v) hb1_12 (Rfm.len _) (Rfm.one _) ?_
  intro w14 hb1_17 hk15 hz16
  replace hb1_17 : Blk w14 b1 (Rfm.cells y.v) 44 := (by rwa [over_whole rfl] at hb1_17)
  have hsz18 := Keep.size hk15
  replace hK0 := Keep.fr hK0 hk15
  refine Ose [(6, pt b1),(7, .bool bb)] <| V_ret ?_
  exact leave0 (.tuple #[.agg (Rfm.cells y.v).toArray, .bool bb]) (.inl rfl) (res_agg_tmp (m := 45) rfl rfl rfl (by kernel_rfl) hb1_17 rfl) ⟨by rw [g5, hc6]; rfl, hK0⟩
 rcases place_at cs i hs hi hbef haft with ⟨y, g1, g2, _⟩ | ⟨g1, g2, g3, g4⟩
 · exact absurd hc6 (by rw [hbb, g1]; simp [g2])
 refine Vsk <| Vr <| La 0 [nt 0, nt 0, .int .u8 0, .int .u8 0, .int .u8 0, .int .u8 0, .int .u8 0, .int .u8 0, .int .u8 0, .int .u8 0, .int .u8 0, .int .u8 0, .int .u8 0, .int .u8 0, .int .u8 0, .int .u8 0, .int .u8 0, .int .u8 0, .int .u8 0, .int .u8 0, .int .u8 0, .int .u8 0, .int .u8 0, .int .u8 0, .int .u8 0, .int .u8 0, .int .u8 0, .int .u8 0, .int .u8 0, .int .u8 0, .int .u8 0, .int .u8 0, .int .u8 0, .int .u8 0, nt 0, nt 0, nt 0, .bool false, nt 0, nt 0, nt 0, nt 0, nt 0, nt 0, nt 0] 45 hb1 rfl rfl <| On 2 [6, 28, 29] <| OI_set (m := 45) (kd := true) 44 (.tmp 6) (.tmp 28) 0 (.agg #[nt 0, nt 0, .int .u8 0, .int .u8 0, .int .u8 0, .int .u8 0, .int .u8 0, .int .u8 0, .int .u8 0, .int .u8 0, .int .u8 0, .int .u8 0, .int .u8 0, .int .u8 0, .int .u8 0, .int .u8 0, .int .u8 0, .int .u8 0, .int .u8 0, .int .u8 0, .int .u8 0, .int .u8 0, .int .u8 0, .int .u8 0, .int .u8 0, .int .u8 0, .int .u8 0, .int .u8 0, .int .u8 0, .int .u8 0, .int .u8 0, .int .u8 0, .int .u8 0, .int .u8 0, nt 0, nt 0, nt 0, .bool false, nt 0, nt 0, nt 0, nt 0, nt 0, nt 0, nt 0]) [nt 0, nt 0, .int .u8 0, .int .u8 0, .int .u8 0, .int .u8 0, .int .u8 0, .int .u8 0, .int .u8 0, .int .u8 0, .int .u8 0, .int .u8 0, .int .u8 0, .int .u8 0, .int .u8 0, .int .u8 0, .int .u8 0, .int .u8 0, .int .u8 0, .int .u8 0, .int .u8 0, .int .u8 0, .int .u8 0, .int .u8 0, .int .u8 0, .int .u8 0, .int .u8 0, .int .u8 0, .int .u8 0, .int .u8 0, .int .u8 0, .int .u8 0, .int .u8 0, .int .u8 0, nt 0, nt 0, nt 0, .bool false, nt 0, nt 0, nt 0, nt 0, nt 0, nt 0, nt 0] none (by kernel_rfl) (by kernel_rfl) (by kernel_rfl) hb1 (by kernel_rfl) (by kernel_rfl) (by kernel_rfl) (Nat.le_of_ble_eq_true (by kernel_rfl)) (by simp [Value.oneCell']) ?_
 intro w19 hb1_22 hk20 hz21
 replace hb1_22 : Blk w19 b1 [nt 0, nt 0, .int .u8 0, .int .u8 0, .int .u8 0, .int .u8 0, .int .u8 0, .int .u8 0, .int .u8 0, .int .u8 0, .int .u8 0, .int .u8 0, .int .u8 0, .int .u8 0, .int .u8 0, .int .u8 0, .int .u8 0, .int .u8 0, .int .u8 0, .int .u8 0, .int .u8 0, .int .u8 0, .int .u8 0, .int .u8 0, .int .u8 0, .int .u8 0, .int .u8 0, .int .u8 0, .int .u8 0, .int .u8 0, .int .u8 0, .int .u8 0, .int .u8 0, .int .u8 0, nt 0, nt 0, nt 0, .bool false, nt 0, nt 0, nt 0, nt 0, nt 0, nt 0, nt 0] 44 := hb1_22
 have hsz23 := Keep.size hk20
 replace hK0 := Keep.fr hK0 hk20
 refine Ose [(6, pt b1),(7, .bool bb)] <| V_ret ?_
 exact leave0 (.tuple #[.agg [nt 0, nt 0, .int .u8 0, .int .u8 0, .int .u8 0, .int .u8 0, .int .u8 0, .int .u8 0, .int .u8 0, .int .u8 0, .int .u8 0, .int .u8 0, .int .u8 0, .int .u8 0, .int .u8 0, .int .u8 0, .int .u8 0, .int .u8 0, .int .u8 0, .int .u8 0, .int .u8 0, .int .u8 0, .int .u8 0, .int .u8 0, .int .u8 0, .int .u8 0, .int .u8 0, .int .u8 0, .int .u8 0, .int .u8 0, .int .u8 0, .int .u8 0, .int .u8 0, .int .u8 0, nt 0, nt 0, nt 0, .bool false, nt 0, nt 0, nt 0, nt 0, nt 0, nt 0, nt 0].toArray, .bool bb]) (.inl rfl) (res_agg_tmp (m := 45) rfl rfl rfl (by kernel_rfl) hb1_22 rfl) ⟨by rw [g2, hc6]; rfl, hK0⟩
end Go.Al.GQ
namespace Go.Al.GQ
open Go Go.RowKit Go.Proofs
theorem setC_mem {a b : Int} {v : Rfm} {y : Ci} : ∀ {cs : List Ci}, y ∈ setC a b v cs → (y.a = a ∧ y.b = b) ∨ y ∈ cs
  | [], h => by simp only [setC, List.mem_singleton] at h; subst h; exact .inl ⟨rfl, rfl⟩
  | x :: l, h => by
    simp only [setC] at h
    split at h
    · rcases List.mem_cons.1 h with rfl | h
      · exact .inl ⟨rfl, rfl⟩
      · exact .inr (List.mem_cons_of_mem _ h)
    · split at h
      · rcases List.mem_cons.1 h with rfl | h
        · exact .inr (List.mem_cons_self ..)
        · exact (setC_mem h).imp id (List.mem_cons_of_mem _)
      · rcases List.mem_cons.1 h with rfl | h
        · exact .inl ⟨rfl, rfl⟩
        · exact .inr h
theorem Srt.set {a b : Int} {v : Rfm} : ∀ {cs : List Ci}, Srt cs → Srt (setC a b v cs) ∧ (setC a b v cs).length ≤ cs.length + 1
  | [], _ => ⟨by simp [setC, Srt], by simp [setC]⟩
  | x :: l, h => by
    have h := List.pairwise_cons.1 h
    simp only [setC]
    split
    · rename_i he
      exact ⟨List.pairwise_cons.2 ⟨fun y hy => by have := h.1 y hy; rw [he.1, he.2] at this; exact this, h.2⟩, by simp⟩
    · rename_i he
      split
      · rename_i hlt
        obtain ⟨h1, h2⟩ := Srt.set (a := a) (b := b) (v := v) h.2
        refine ⟨List.pairwise_cons.2 ⟨fun y hy => ?_, h1⟩, by simpa using h2⟩
        rcases setC_mem hy with ⟨e1, e2⟩ | hy
        · rw [e1, e2]; exact hlt
        · exact h.1 y hy
      · rename_i hnl
        have hgt : ltC a b x.a x.b := by unfold ltC at *; omega
        refine ⟨List.pairwise_cons.2 ⟨fun y hy => ?_, List.pairwise_cons.2 h⟩, by simp⟩
        rcases List.mem_cons.1 hy with rfl | hy
        · exact hgt
        · exact ltC_trans hgt (h.1 y hy)
theorem set_spec (D : Nat → Prop) (g : Nat) (cs : List Ci) (a b : Int) (v : Rfm) (w : World) (h : Gr D w g cs) (hD : ∀ k, w.heap.size ≤ k → D k) (hmax : cs.length < 100000) : Calls Tryz.prog 54 #[pt g, nt a, nt b, .agg (Rfm.cells v).toArray] w fun e w' => e = .returned (.tuple #[]) ∧ Gr D w' g (setC a b v cs) ∧ Keep (only g) w w' := by
 obtain ⟨hs, hlen, A, cap, h, hDA⟩ := h
 have hgA := h.off
 have hg := h.blk
 have hA := h.sl
 have hglt := hg.lt
 have hltA := SlT.lt hA
 have hK0 : Keep (only g) w w := Keep.refl _ _
 refine eV ?_
 refine Vr <| OI_box 44 (.tmp 3) (.agg (Rfm.cells v).toArray) (Rfm.cells v) (some 7) (by kernel_rfl) (by kernel_rfl) rfl ?_
 intro b1 w1 e1 hb1 k1 z1
 have hsz2 := Keep.size k1
 replace hg := hg.k0 k1
 replace hA := hA.keep0 k1
 replace hK0 := hK0.tn k1
 have hb1lt := hb1.lt
 refine Oe <| V_seq <| Vn [0, 1, 2, 7, 12] <| Vf <| Vsk <| Vr <| On 3 [0, 1, 2, 7, 14, 15, 16] <| Kg (place_spec g cap A cs a b _ ⟨hg, hA, hgA⟩ hs hlen) ?_
 rintro _ w7 ⟨i, bb, rfl, hk8, hi, hbef, haft, hbb⟩
 refine ⟨_, rfl, ?_⟩
 have hsz9 := Keep.size hk8
 replace hg := hg.k0 hk8
 replace hA := hA.keep0 hk8
 replace hK0 := hK0.tn hk8
 refine On 9 [0, 1, 2, 7, 8, 9] <| Oer <| On 3 [0, 1, 2, 7, 8, 9, 22] <| Lr 0 (.slice A cs.length cap) hg <| Kg (clone_spec A cap cs _ hA (by omega)) ?_
 rintro _ w12 ⟨A9, cap9, rfl, h9, hk13, hown9⟩
 refine ⟨_, rfl, ?_⟩
 have hsz14 := Keep.size hk13
 replace hg := hg.k0 hk13
 replace hb1 := hb1.k0 (hk8.tr hk13)
 replace hK0 := hK0.tn hk13
 have hlt9 := SlT.lt h9
 refine On 6 [0, 1, 2, 7, 8, 9, 10] <| Oe <| V_seq <| Vn [0, 1, 2, 7, 8, 10, 25] <| Vb (bb) (fun hc15 => ?_) (fun hc15 => ?_)
 ·
  rcases place_at cs i hs hi hbef haft with ⟨y, g1, g2, g3, g4, g5, g6, g7⟩ | ⟨g1, _⟩
  rotate_left
  · exact absurd hc15 (by rw [hbb]; split <;> simp_all)
  have hilt := (List.getElem?_eq_some_iff.1 g1).1
  refine V_region <| On 2 [0, 7, 10, 26, 27] <| La 0 (Rfm.cells v) 45 hb1 (take_all (Rfm.len _)) (Rfm.len _) ?_
  obtain ⟨b16, o16, L16, T16, rfl, hat16⟩ := SlT.opn h9
  have hb16lt := hat16.blk.lt
  refine Oi (b := b16) (o := o16) (len := cs.length) (cap := cap9) (j := i) (some 29) 148 (.tmp 26) (.tmp 27) 147 47 152 .i64 <| On 5 [0, 10, 28, 30] <| OI_set (m := 45) (kd := true) 44 (.tmp 30) (.tmp 28) (o16 + i * 47 + 2) (.agg (Rfm.cells v).toArray) (Rfm.cells v) none (by kernel_rfl) (by kernel_rfl) (by kernel_rfl) (At.blk hat16) (by kernel_rfl) (by kernel_rfl) rfl (by have h1 := At.room hat16; have h2 := At.le hat16; rw [List.length_map] at h2; omega) (Rfm.one v) ?_
  intro w8 hn8 hk8 hz8
  have hat8 := At.setN (y := (⟨a, b, v⟩ : Ci)) (k := 2) hat16 g1 (by show 2 + 45 ≤ 47; omega) (by simp [Ci.cells, over, g3, g4, Rfm.cells]) hn8
  have hbge := hown9 b16 ⟨_, rfl, rfl⟩
  have hsz17 := Keep.size hk8
  replace hg := hg.k1 hk8
  replace hK0 := Keep.fr hK0 hk8
  refine Oe <| V_region <| Os 4 [(41, sl_ b16 o16 cs.length cap9),(43, pt g)] <| St_ 0 (sl_ b16 o16 cs.length cap9) hg ?_
  intro w18 hg_21 hk19 hz20
  replace hg_21 : Blk w18 g [sl_ b16 o16 cs.length cap9] 150 := hg_21
  have hsz22 := Keep.size hk19
  replace hat8 := hat8.keep hk19 (by show ¬ (_ = _); omega)
  replace hK0 := Keep.fr hK0 hk19
  refine OI_end rfl ?_
  obtain ⟨hs1, hs2⟩ := Srt.set (a := a) (b := b) (v := v) hs
  have hl : (setC a b v cs).length = cs.length := by rw [← g6 v]; simp
  exact X_end _ rfl ⟨rfl, ⟨hs1, by omega, _, cap9, ⟨by rw [hl]; exact hg_21, by rw [← g6 v]; exact At.slt hat8, fun h => by have := inA_some h; omega⟩, fun k hk => hD k (by have := inA_some hk; omega)⟩, hK0⟩
 rcases place_at cs i hs hi hbef haft with ⟨y, g1, g2, _⟩ | ⟨g1, g2, g3, g4⟩
 · exact absurd hc15 (by rw [hbb, g1]; simp [g2])
 refine V_region <| On 5 [0, 7, 31, 32, 35] <| La 0 (Rfm.cells v) 45 hb1 (take_all (Rfm.len _)) (Rfm.len _) <| On 7 [0, 31, 32, 37] <| OI_slit (E := 147) (zv := .agg #[nt 0, nt 0, nt 0, nt 0, .int .u8 0, .int .u8 0, .int .u8 0, .int .u8 0, .int .u8 0, .int .u8 0, .int .u8 0, .int .u8 0, .int .u8 0, .int .u8 0, .int .u8 0, .int .u8 0, .int .u8 0, .int .u8 0, .int .u8 0, .int .u8 0, .int .u8 0, .int .u8 0, .int .u8 0, .int .u8 0, .int .u8 0, .int .u8 0, .int .u8 0, .int .u8 0, .int .u8 0, .int .u8 0, .int .u8 0, .int .u8 0, .int .u8 0, .int .u8 0, .int .u8 0, .int .u8 0, nt 0, nt 0, nt 0, .bool false, nt 0, nt 0, nt 0, nt 0, nt 0, nt 0, nt 0]) (sz := 47) (by_ := 152) 148 1 #[(0, (Operand.tmp 37))] [.agg #[nt a, nt b, nt v.state, nt v.track, .int .u8 (v.sum 0), .int .u8 (v.sum 1), .int .u8 (v.sum 2), .int .u8 (v.sum 3), .int .u8 (v.sum 4), .int .u8 (v.sum 5), .int .u8 (v.sum 6), .int .u8 (v.sum 7), .int .u8 (v.sum 8), .int .u8 (v.sum 9), .int .u8 (v.sum 10), .int .u8 (v.sum 11), .int .u8 (v.sum 12), .int .u8 (v.sum 13), .int .u8 (v.sum 14), .int .u8 (v.sum 15), .int .u8 (v.sum 16), .int .u8 (v.sum 17), .int .u8 (v.sum 18), .int .u8 (v.sum 19), .int .u8 (v.sum 20), .int .u8 (v.sum 21), .int .u8 (v.sum 22), .int .u8 (v.sum 23), .int .u8 (v.sum 24), .int .u8 (v.sum 25), .int .u8 (v.sum 26), .int .u8 (v.sum 27), .int .u8 (v.sum 28), .int .u8 (v.sum 29), .int .u8 (v.sum 30), .int .u8 (v.sum 31), nt v.after, nt v.sub, nt v.by_, .bool v.put, nt v.backer, nt v.since, nt v.till, nt v.stop, nt v.t.a, nt v.t.n, nt v.t.s]] [nt a, nt b, nt v.state, nt v.track, .int .u8 (v.sum 0), .int .u8 (v.sum 1), .int .u8 (v.sum 2), .int .u8 (v.sum 3), .int .u8 (v.sum 4), .int .u8 (v.sum 5), .int .u8 (v.sum 6), .int .u8 (v.sum 7), .int .u8 (v.sum 8), .int .u8 (v.sum 9), .int .u8 (v.sum 10), .int .u8 (v.sum 11), .int .u8 (v.sum 12), .int .u8 (v.sum 13), .int .u8 (v.sum 14), .int .u8 (v.sum 15), .int .u8 (v.sum 16), .int .u8 (v.sum 17), .int .u8 (v.sum 18), .int .u8 (v.sum 19), .int .u8 (v.sum 20), .int .u8 (v.sum 21), .int .u8 (v.sum 22), .int .u8 (v.sum 23), .int .u8 (v.sum 24), .int .u8 (v.sum 25), .int .u8 (v.sum 26), .int .u8 (v.sum 27), .int .u8 (v.sum 28), .int .u8 (v.sum 29), .int .u8 (v.sum 30), .int .u8 (v.sum 31), nt v.after, nt v.sub, nt v.by_, .bool v.put, nt v.backer, nt v.since, nt v.till, nt v.stop, nt v.t.a, nt v.t.n, nt v.t.s] (some 38) (by kernel_rfl) (by kernel_rfl) (by kernel_rfl) (by omega) rfl (by omega) (by intro v hv; simp only [List.mem_cons, List.not_mem_nil, or_false] at hv; rcases hv with rfl <;> rfl) (by kernel_rfl) rfl ?_
 intro b23 w23 e23 hb23 k23 z23
 have hsz24 := Keep.size k23
 replace hg := hg.k0 k23
 replace h9 := h9.keep0 k23
 replace hK0 := hK0.tn k23
 have hb23lt := hb23.lt
 have hne9 : ¬ inA A9 b23 := fun hs => by have h1 := hlt9 _ hs; have h2 := hown9 _ hs; omega
 refine Kg (insert_spec A9 cap9 b23 i cs ⟨a, b, v⟩ _ h9 hb23 hne9 hi (by omega)) ?_
 rintro _ w25 ⟨A10, cap10, rfl, h10, hk26, hown10⟩
 refine ⟨_, rfl, ?_⟩
 have hsz27 := Keep.size hk26
 replace hg := hg.keep hk26 (fun hs => by have h1 := hlt9 _ hs; have h2 := hown9 _ hs; omega)
 replace hK0 := Keep.fresh hK0 hk26 (by intro i hi hs; exfalso; have h2 := hown9 i hs; omega)
 have hgA10 : ¬ inA A10 g := fun hs => by rcases hown10 _ hs with h | h; (have h2 := hown9 _ h; omega); omega
 refine On 10 [0, 10] <| Oe <| V_region <| Os 4 [(41, .slice A10 (cs.length + 1) cap10),(43, pt g)] <| St_ 0 (.slice A10 (cs.length + 1) cap10) hg ?_
 intro w28 hg_31 hk29 hz30
 replace hg_31 : Blk w28 g [.slice A10 (cs.length + 1) cap10] 150 := hg_31
 have hsz32 := Keep.size hk29
 replace h10 := h10.keep hk29 (fun k hk hs => by have hs : k = g := hs; subst hs; exact hgA10 hk)
 replace hK0 := Keep.fr hK0 hk29
 refine OI_end rfl ?_
 obtain ⟨hs1, hs2⟩ := Srt.set (a := a) (b := b) (v := v) hs
 rw [g3 v] at h10
 have hl : (setC a b v cs).length = cs.length + 1 := by rw [← g3 v]; simp; omega
 exact X_end _ rfl ⟨rfl, ⟨hs1, by omega, A10, cap10, ⟨by rw [hl]; exact hg_31, h10, hgA10⟩, fun k hk => hD k (by rcases hown10 _ hk with h | h; (have h2 := hown9 _ h; omega); omega)⟩, hK0⟩
end Go.Al.GQ
namespace Go.Al.GQ
open Go Go.RowKit Go.Proofs
theorem GrAt.quiet {N g cap : Nat} {A : Option Addr} {cs : List Ci} {W W' : World} (h : GrAt W g A cap cs) (k : Keep (lb N W) W W') : GrAt W' g A cap cs := ⟨h.blk.quiet k, h.sl.quiet k, h.off⟩
end Go.Al.GQ
namespace Go.Al.GQ
open Go Go.RowKit Go.Proofs
variable {F : Nat → Prop} {cs : List Ci} {g : Nat} {w : World}
theorem Srt.nil : Srt [] := List.Pairwise.nil
def Grd (F : Nat → Prop) (w : World) (g : Nat) (cs : List Ci) : Prop := Srt cs ∧ cs.length ≤ 100000 ∧ F g ∧ (∀ q, F q → q < w.heap.size) ∧ ∃ A cap, GrAt w g A cap cs ∧ ∀ q, inA A q → F q
theorem Grd.lt (h : Grd F w g cs) : ∀ q, F q → q < w.heap.size := h.2.2.2.1
theorem Grd.at_ (h : Grd F w g cs) : F g := h.2.2.1
theorem Grd.len (h : Grd F w g cs) : cs.length ≤ 100000 := h.2.1
theorem Grd.keep {S : Nat → Prop} {w' : World} (h : Grd F w g cs) (k : Keep S w w') (hS : ∀ q, F q → ¬ S q) : Grd F w' g cs := by
  obtain ⟨h1, h2, h3, h4, A, cap, h5, h6⟩ := h
  exact ⟨h1, h2, h3, fun q hq => Nat.lt_of_lt_of_le (h4 q hq) k.size, A, cap, ⟨h5.blk.keep k (hS _ h3), h5.sl.keep k (fun q hq => hS q (h6 q hq)), h5.off⟩, h6⟩
theorem Grd.quiet {N : Nat} {w' : World} (h : Grd F w g cs) (k : Keep (lb N w) w w') : Grd F w' g cs := by
  obtain ⟨h1, h2, h3, h4, A, cap, h5, h6⟩ := h
  exact ⟨h1, h2, h3, fun q hq => Nat.lt_of_lt_of_le (h4 q hq) k.size, A, cap, h5.quiet k, h6⟩
theorem Grd.mono {F' : Nat → Prop} (h : Grd F w g cs) (hF : ∀ q, F q → F' q) (hlt : ∀ q, F' q → q < w.heap.size) : Grd F' w g cs := by
  obtain ⟨h1, h2, h3, h4, A, cap, h5, h6⟩ := h
  exact ⟨h1, h2, hF _ h3, hlt, A, cap, h5, fun q hq => hF q (h6 q hq)⟩
theorem Grd.of {D : Nat → Prop} (h : Gr D w g cs) (hg : F g) (hD : ∀ q, q < w.heap.size → D q → F q) (hlt : ∀ q, F q → q < w.heap.size) : Grd F w g cs := by
  obtain ⟨h1, h2, A, cap, h5, h6⟩ := h
  exact ⟨h1, h2, hg, hlt, A, cap, h5, fun q hq => hD q (h5.sl.lt q hq) (h6 q hq)⟩
theorem Grd.gr (h : Grd F w g cs) : Gr F w g cs := by
  obtain ⟨h1, h2, h3, h4, A, cap, h5, h6⟩ := h
  exact ⟨h1, h2, A, cap, h5, h6⟩
def more (F : Nat → Prop) (w w' : World) : Nat → Prop := fun q => F q ∨ (w.heap.size ≤ q ∧ q < w'.heap.size)
theorem Gr.mono {D D' : Nat → Prop} (h : Gr D w g cs) (hD : ∀ k, D k → D' k) : Gr D' w g cs := by
  obtain ⟨h1, h2, A, cap, h5, h6⟩ := h
  exact ⟨h1, h2, A, cap, h5, fun q hq => hD q (h6 q hq)⟩
theorem new_grd (w : World) : Calls Tryz.prog 45 #[] w fun e w' => ∃ g F, e = .returned (pt g) ∧ Grd F w' g [] ∧ Keep none_ w w' ∧ (∀ q, F q → w.heap.size ≤ q) := (new_spec (fun q => w.heap.size ≤ q) w).mono (by
  rintro e w' ⟨g, rfl, h1, h2, h3⟩
  have hg : g < w'.heap.size := by obtain ⟨_, _, A, cap, h, _⟩ := h1; exact h.blk.lt
  exact ⟨g, fun q => w.heap.size ≤ q ∧ q < w'.heap.size, rfl, Grd.of h1 ⟨h3, hg⟩ (fun q h1 h2 => ⟨h2, h1⟩) (fun q h => h.2), h2, fun q h => h.1⟩)
end Go.Al.GQ
namespace Go.Al.GV
open Go Go.RowKit Go.Proofs
structure Ci where
  a : Int
  b : Int
  v : Vt
def Ci.cells (c : Ci) : List Value := [nt c.a, nt c.b, nt (c.v).kind, .bool (c.v).aye, nt (c.v).level, nt (c.v).a, nt (c.v).n, nt (c.v).s]
theorem Ci.len (c : Ci) : c.cells.length = 8 := rfl
def ordC (a b : Int) (c : Ci) : Int := orI [cmpI c.a a, cmpI c.b b]
end Go.Al.GV
namespace Go.Al.GV
open Go Go.RowKit Go.Proofs
def ltC (a b a' b' : Int) : Prop := a < a' ∨ (a = a' ∧ b < b')
instance (a b a' b' : Int) : Decidable (ltC a b a' b') := by unfold ltC; infer_instance
theorem ordC_neg (a b : Int) (c : Ci) : ordC a b c < 0 ↔ ltC c.a c.b a b := by
  unfold ordC ltC
  simp only [orI, cmpI]
  rcases Int.lt_trichotomy c.a a with h1 | h1 | h1 <;> rcases Int.lt_trichotomy c.b b with h2 | h2 | h2 <;> simp_all <;> (repeat' split) <;> omega
theorem ltC_trans {a b c d e f : Int} (h : ltC a b c d) (k : ltC c d e f) : ltC a b e f := by unfold ltC at *; omega
def Srt (cs : List Ci) : Prop := cs.Pairwise fun x y => ltC x.a x.b y.a y.b
theorem Srt.mono {cs : List Ci} (h : Srt cs) (a b : Int) (i j : Nat) (x y : Ci) (hij : i ≤ j) (hx : cs[i]? = some x) (hy : cs[j]? = some y) (hlt : ordC a b y < 0) : ordC a b x < 0 := by
  rw [ordC_neg] at *
  rcases Nat.lt_or_eq_of_le hij with hij | rfl
  · obtain ⟨h1, rfl⟩ := List.getElem?_eq_some_iff.1 hx
    obtain ⟨h2, rfl⟩ := List.getElem?_eq_some_iff.1 hy
    exact ltC_trans (List.pairwise_iff_getElem.1 h i j h1 h2 hij) hlt
  · rw [hx] at hy; cases hy; exact hlt
structure GrAt (w : World) (g : Nat) (A : Option Addr) (cap : Nat) (cs : List Ci) : Prop where
  blk : Blk w g [.slice A cs.length cap] 161
  sl : SlT w 8 Ci.cells A cap cs
  off : ¬ inA A g
def Gr (D : Nat → Prop) (w : World) (g : Nat) (cs : List Ci) : Prop := Srt cs ∧ cs.length ≤ 100000 ∧ ∃ A cap, GrAt w g A cap cs ∧ ∀ k, inA A k → D k
theorem new_spec (D : Nat → Prop) (w : World) : Calls Tryz.prog 48 #[] w fun e w' => ∃ g, e = .returned (pt g) ∧ Gr D w' g [] ∧ Keep none_ w w' ∧ w.heap.size ≤ g := by
 have hK0 := Keep.refl none_ w
 refine eV ?_
 refine Vr <| On 1 [] <| Oer <| On 1 [1] <| Bx 161 [.slice none 0 0] ?_
 intro b1 w1 e1 hb1 k1 z1
 have hsz2 := Keep.size k1
 replace hK0 := hK0.tn k1
 have hb1lt := hb1.lt
 refine Ose [(0, pt b1)] <| V_ret ?_
 exact X_return _ rfl ⟨_, rfl, ⟨List.Pairwise.nil, by simp, none, 0, ⟨hb1, SlT.nil _ _ _, fun h => inA_none h⟩, fun k hk => (inA_none hk).elim⟩, hK0, by omega⟩
def setC (a b : Int) (v : Vt) : List Ci → List Ci
  | [] => [⟨a, b, v⟩]
  | x :: l => if x.a = a ∧ x.b = b then ⟨a, b, v⟩ :: l else if ltC x.a x.b a b then x :: setC a b v l else ⟨a, b, v⟩ :: x :: l
end Go.Al.GV
namespace Go.Al.GV
open Go Go.RowKit Go.Proofs
theorem setC_mem {a b : Int} {v : Vt} {y : Ci} : ∀ {cs : List Ci}, y ∈ setC a b v cs → (y.a = a ∧ y.b = b) ∨ y ∈ cs
  | [], h => by simp only [setC, List.mem_singleton] at h; subst h; exact .inl ⟨rfl, rfl⟩
  | x :: l, h => by
    simp only [setC] at h
    split at h
    · rcases List.mem_cons.1 h with rfl | h
      · exact .inl ⟨rfl, rfl⟩
      · exact .inr (List.mem_cons_of_mem _ h)
    · split at h
      · rcases List.mem_cons.1 h with rfl | h
        · exact .inr (List.mem_cons_self ..)
        · exact (setC_mem h).imp id (List.mem_cons_of_mem _)
      · rcases List.mem_cons.1 h with rfl | h
        · exact .inl ⟨rfl, rfl⟩
        · exact .inr h
theorem Srt.set {a b : Int} {v : Vt} : ∀ {cs : List Ci}, Srt cs → Srt (setC a b v cs) ∧ (setC a b v cs).length ≤ cs.length + 1
  | [], _ => ⟨by simp [setC, Srt], by simp [setC]⟩
  | x :: l, h => by
    have h := List.pairwise_cons.1 h
    simp only [setC]
    split
    · rename_i he
      exact ⟨List.pairwise_cons.2 ⟨fun y hy => by have := h.1 y hy; rw [he.1, he.2] at this; exact this, h.2⟩, by simp⟩
    · rename_i he
      split
      · rename_i hlt
        obtain ⟨h1, h2⟩ := Srt.set (a := a) (b := b) (v := v) h.2
        refine ⟨List.pairwise_cons.2 ⟨fun y hy => ?_, h1⟩, by simpa using h2⟩
        rcases setC_mem hy with ⟨e1, e2⟩ | hy
        · rw [e1, e2]; exact hlt
        · exact h.1 y hy
      · rename_i hnl
        have hgt : ltC a b x.a x.b := by unfold ltC at *; omega
        refine ⟨List.pairwise_cons.2 ⟨fun y hy => ?_, List.pairwise_cons.2 h⟩, by simp⟩
        rcases List.mem_cons.1 hy with rfl | hy
        · exact hgt
        · exact ltC_trans hgt (h.1 y hy)
end Go.Al.GV
namespace Go.Al.GV
open Go Go.RowKit Go.Proofs
def rowL (n : Int) (cs : List Ci) : List (Int × Vt) := (cs.filter fun c => c.a == n).map fun c => (c.b, c.v)
theorem GrAt.quiet {N g cap : Nat} {A : Option Addr} {cs : List Ci} {W W' : World} (h : GrAt W g A cap cs) (k : Keep (lb N W) W W') : GrAt W' g A cap cs := ⟨h.blk.quiet k, h.sl.quiet k, h.off⟩
end Go.Al.GV
namespace Go.Al.GV
open Go Go.RowKit Go.Proofs
variable {F : Nat → Prop} {cs : List Ci} {g : Nat} {w : World}
theorem Srt.nil : Srt [] := List.Pairwise.nil
def Grd (F : Nat → Prop) (w : World) (g : Nat) (cs : List Ci) : Prop := Srt cs ∧ cs.length ≤ 100000 ∧ F g ∧ (∀ q, F q → q < w.heap.size) ∧ ∃ A cap, GrAt w g A cap cs ∧ ∀ q, inA A q → F q
theorem Grd.lt (h : Grd F w g cs) : ∀ q, F q → q < w.heap.size := h.2.2.2.1
theorem Grd.at_ (h : Grd F w g cs) : F g := h.2.2.1
theorem Grd.len (h : Grd F w g cs) : cs.length ≤ 100000 := h.2.1
theorem Grd.keep {S : Nat → Prop} {w' : World} (h : Grd F w g cs) (k : Keep S w w') (hS : ∀ q, F q → ¬ S q) : Grd F w' g cs := by
  obtain ⟨h1, h2, h3, h4, A, cap, h5, h6⟩ := h
  exact ⟨h1, h2, h3, fun q hq => Nat.lt_of_lt_of_le (h4 q hq) k.size, A, cap, ⟨h5.blk.keep k (hS _ h3), h5.sl.keep k (fun q hq => hS q (h6 q hq)), h5.off⟩, h6⟩
theorem Grd.quiet {N : Nat} {w' : World} (h : Grd F w g cs) (k : Keep (lb N w) w w') : Grd F w' g cs := by
  obtain ⟨h1, h2, h3, h4, A, cap, h5, h6⟩ := h
  exact ⟨h1, h2, h3, fun q hq => Nat.lt_of_lt_of_le (h4 q hq) k.size, A, cap, h5.quiet k, h6⟩
theorem Grd.mono {F' : Nat → Prop} (h : Grd F w g cs) (hF : ∀ q, F q → F' q) (hlt : ∀ q, F' q → q < w.heap.size) : Grd F' w g cs := by
  obtain ⟨h1, h2, h3, h4, A, cap, h5, h6⟩ := h
  exact ⟨h1, h2, hF _ h3, hlt, A, cap, h5, fun q hq => hF q (h6 q hq)⟩
theorem Grd.of {D : Nat → Prop} (h : Gr D w g cs) (hg : F g) (hD : ∀ q, q < w.heap.size → D q → F q) (hlt : ∀ q, F q → q < w.heap.size) : Grd F w g cs := by
  obtain ⟨h1, h2, A, cap, h5, h6⟩ := h
  exact ⟨h1, h2, hg, hlt, A, cap, h5, fun q hq => hD q (h5.sl.lt q hq) (h6 q hq)⟩
theorem Grd.gr (h : Grd F w g cs) : Gr F w g cs := by
  obtain ⟨h1, h2, h3, h4, A, cap, h5, h6⟩ := h
  exact ⟨h1, h2, A, cap, h5, h6⟩
theorem Gr.mono {D D' : Nat → Prop} (h : Gr D w g cs) (hD : ∀ k, D k → D' k) : Gr D' w g cs := by
  obtain ⟨h1, h2, A, cap, h5, h6⟩ := h
  exact ⟨h1, h2, A, cap, h5, fun q hq => hD q (h6 q hq)⟩
theorem new_grd (w : World) : Calls Tryz.prog 48 #[] w fun e w' => ∃ g F, e = .returned (pt g) ∧ Grd F w' g [] ∧ Keep none_ w w' ∧ (∀ q, F q → w.heap.size ≤ q) := (new_spec (fun q => w.heap.size ≤ q) w).mono (by
  rintro e w' ⟨g, rfl, h1, h2, h3⟩
  have hg : g < w'.heap.size := by obtain ⟨_, _, A, cap, h, _⟩ := h1; exact h.blk.lt
  exact ⟨g, fun q => w.heap.size ≤ q ∧ q < w'.heap.size, rfl, Grd.of h1 ⟨h3, hg⟩ (fun q h1 h2 => ⟨h2, h1⟩) (fun q h => h.2), h2, fun q h => h.1⟩)
end Go.Al.GV
namespace Go.Al.GR
open Go Go.RowKit Go.Proofs
structure Ci where
  a : Int
  b : Int
  v : Option Addr
def Ci.cells (c : Ci) : List Value := [nt c.a, nt c.b, .pointer c.v]
theorem Ci.len (c : Ci) : c.cells.length = 3 := rfl
def ordC (a b : Int) (c : Ci) : Int := orI [cmpI c.a a, cmpI c.b b]
end Go.Al.GR
namespace Go.Al.GR
open Go Go.RowKit Go.Proofs
def ltC (a b a' b' : Int) : Prop := a < a' ∨ (a = a' ∧ b < b')
instance (a b a' b' : Int) : Decidable (ltC a b a' b') := by unfold ltC; infer_instance
theorem ordC_neg (a b : Int) (c : Ci) : ordC a b c < 0 ↔ ltC c.a c.b a b := by
  unfold ordC ltC
  simp only [orI, cmpI]
  rcases Int.lt_trichotomy c.a a with h1 | h1 | h1 <;> rcases Int.lt_trichotomy c.b b with h2 | h2 | h2 <;> simp_all <;> (repeat' split) <;> omega
theorem ltC_trans {a b c d e f : Int} (h : ltC a b c d) (k : ltC c d e f) : ltC a b e f := by unfold ltC at *; omega
def Srt (cs : List Ci) : Prop := cs.Pairwise fun x y => ltC x.a x.b y.a y.b
theorem Srt.mono {cs : List Ci} (h : Srt cs) (a b : Int) (i j : Nat) (x y : Ci) (hij : i ≤ j) (hx : cs[i]? = some x) (hy : cs[j]? = some y) (hlt : ordC a b y < 0) : ordC a b x < 0 := by
  rw [ordC_neg] at *
  rcases Nat.lt_or_eq_of_le hij with hij | rfl
  · obtain ⟨h1, rfl⟩ := List.getElem?_eq_some_iff.1 hx
    obtain ⟨h2, rfl⟩ := List.getElem?_eq_some_iff.1 hy
    exact ltC_trans (List.pairwise_iff_getElem.1 h i j h1 h2 hij) hlt
  · rw [hx] at hy; cases hy; exact hlt
structure GrAt (w : World) (g : Nat) (A : Option Addr) (cap : Nat) (cs : List Ci) : Prop where
  blk : Blk w g [.slice A cs.length cap] 164
  sl : SlT w 3 Ci.cells A cap cs
  off : ¬ inA A g
def Gr (D : Nat → Prop) (w : World) (g : Nat) (cs : List Ci) : Prop := Srt cs ∧ cs.length ≤ 100000 ∧ ∃ A cap, GrAt w g A cap cs ∧ ∀ k, inA A k → D k
theorem new_spec (D : Nat → Prop) (w : World) : Calls Tryz.prog 49 #[] w fun e w' => ∃ g, e = .returned (pt g) ∧ Gr D w' g [] ∧ Keep none_ w w' ∧ w.heap.size ≤ g := by
 have hK0 := Keep.refl none_ w
 refine eV ?_
 refine Vr <| On 1 [] <| Oer <| On 1 [1] <| Bx 164 [.slice none 0 0] ?_
 intro b1 w1 e1 hb1 k1 z1
 have hsz2 := Keep.size k1
 replace hK0 := hK0.tn k1
 have hb1lt := hb1.lt
 refine Ose [(0, pt b1)] <| V_ret ?_
 exact X_return _ rfl ⟨_, rfl, ⟨List.Pairwise.nil, by simp, none, 0, ⟨hb1, SlT.nil _ _ _, fun h => inA_none h⟩, fun k hk => (inA_none hk).elim⟩, hK0, by omega⟩
def getC (a b : Int) : List Ci → Option (Option Addr)
  | [] => none
  | x :: l => if x.a = a ∧ x.b = b then some x.v else getC a b l
def setC (a b : Int) (v : Option Addr) : List Ci → List Ci
  | [] => [⟨a, b, v⟩]
  | x :: l => if x.a = a ∧ x.b = b then ⟨a, b, v⟩ :: l else if ltC x.a x.b a b then x :: setC a b v l else ⟨a, b, v⟩ :: x :: l
end Go.Al.GR
namespace Go.Al.GR
open Go Go.RowKit Go.Proofs
theorem setC_mem {a b : Int} {v : Option Addr} {y : Ci} : ∀ {cs : List Ci}, y ∈ setC a b v cs → (y.a = a ∧ y.b = b) ∨ y ∈ cs
  | [], h => by simp only [setC, List.mem_singleton] at h; subst h; exact .inl ⟨rfl, rfl⟩
  | x :: l, h => by
    simp only [setC] at h
    split at h
    · rcases List.mem_cons.1 h with rfl | h
      · exact .inl ⟨rfl, rfl⟩
      · exact .inr (List.mem_cons_of_mem _ h)
    · split at h
      · rcases List.mem_cons.1 h with rfl | h
        · exact .inr (List.mem_cons_self ..)
        · exact (setC_mem h).imp id (List.mem_cons_of_mem _)
      · rcases List.mem_cons.1 h with rfl | h
        · exact .inl ⟨rfl, rfl⟩
        · exact .inr h
theorem Srt.set {a b : Int} {v : Option Addr} : ∀ {cs : List Ci}, Srt cs → Srt (setC a b v cs) ∧ (setC a b v cs).length ≤ cs.length + 1
  | [], _ => ⟨by simp [setC, Srt], by simp [setC]⟩
  | x :: l, h => by
    have h := List.pairwise_cons.1 h
    simp only [setC]
    split
    · rename_i he
      exact ⟨List.pairwise_cons.2 ⟨fun y hy => by have := h.1 y hy; rw [he.1, he.2] at this; exact this, h.2⟩, by simp⟩
    · rename_i he
      split
      · rename_i hlt
        obtain ⟨h1, h2⟩ := Srt.set (a := a) (b := b) (v := v) h.2
        refine ⟨List.pairwise_cons.2 ⟨fun y hy => ?_, h1⟩, by simpa using h2⟩
        rcases setC_mem hy with ⟨e1, e2⟩ | hy
        · rw [e1, e2]; exact hlt
        · exact h.1 y hy
      · rename_i hnl
        have hgt : ltC a b x.a x.b := by unfold ltC at *; omega
        refine ⟨List.pairwise_cons.2 ⟨fun y hy => ?_, List.pairwise_cons.2 h⟩, by simp⟩
        rcases List.mem_cons.1 hy with rfl | hy
        · exact hgt
        · exact ltC_trans hgt (h.1 y hy)
end Go.Al.GR
namespace Go.Al.GR
open Go Go.RowKit Go.Proofs
theorem GrAt.quiet {N g cap : Nat} {A : Option Addr} {cs : List Ci} {W W' : World} (h : GrAt W g A cap cs) (k : Keep (lb N W) W W') : GrAt W' g A cap cs := ⟨h.blk.quiet k, h.sl.quiet k, h.off⟩
end Go.Al.GR
namespace Go.Al.GR
open Go Go.RowKit Go.Proofs
variable {F : Nat → Prop} {cs : List Ci} {g : Nat} {w : World}
theorem Srt.nil : Srt [] := List.Pairwise.nil
def Grd (F : Nat → Prop) (w : World) (g : Nat) (cs : List Ci) : Prop := Srt cs ∧ cs.length ≤ 100000 ∧ F g ∧ (∀ q, F q → q < w.heap.size) ∧ ∃ A cap, GrAt w g A cap cs ∧ ∀ q, inA A q → F q
theorem Grd.lt (h : Grd F w g cs) : ∀ q, F q → q < w.heap.size := h.2.2.2.1
theorem Grd.at_ (h : Grd F w g cs) : F g := h.2.2.1
theorem Grd.len (h : Grd F w g cs) : cs.length ≤ 100000 := h.2.1
theorem Grd.keep {S : Nat → Prop} {w' : World} (h : Grd F w g cs) (k : Keep S w w') (hS : ∀ q, F q → ¬ S q) : Grd F w' g cs := by
  obtain ⟨h1, h2, h3, h4, A, cap, h5, h6⟩ := h
  exact ⟨h1, h2, h3, fun q hq => Nat.lt_of_lt_of_le (h4 q hq) k.size, A, cap, ⟨h5.blk.keep k (hS _ h3), h5.sl.keep k (fun q hq => hS q (h6 q hq)), h5.off⟩, h6⟩
theorem Grd.quiet {N : Nat} {w' : World} (h : Grd F w g cs) (k : Keep (lb N w) w w') : Grd F w' g cs := by
  obtain ⟨h1, h2, h3, h4, A, cap, h5, h6⟩ := h
  exact ⟨h1, h2, h3, fun q hq => Nat.lt_of_lt_of_le (h4 q hq) k.size, A, cap, h5.quiet k, h6⟩
theorem Grd.mono {F' : Nat → Prop} (h : Grd F w g cs) (hF : ∀ q, F q → F' q) (hlt : ∀ q, F' q → q < w.heap.size) : Grd F' w g cs := by
  obtain ⟨h1, h2, h3, h4, A, cap, h5, h6⟩ := h
  exact ⟨h1, h2, hF _ h3, hlt, A, cap, h5, fun q hq => hF q (h6 q hq)⟩
theorem Grd.of {D : Nat → Prop} (h : Gr D w g cs) (hg : F g) (hD : ∀ q, q < w.heap.size → D q → F q) (hlt : ∀ q, F q → q < w.heap.size) : Grd F w g cs := by
  obtain ⟨h1, h2, A, cap, h5, h6⟩ := h
  exact ⟨h1, h2, hg, hlt, A, cap, h5, fun q hq => hD q (h5.sl.lt q hq) (h6 q hq)⟩
theorem Grd.gr (h : Grd F w g cs) : Gr F w g cs := by
  obtain ⟨h1, h2, h3, h4, A, cap, h5, h6⟩ := h
  exact ⟨h1, h2, A, cap, h5, h6⟩
theorem Gr.mono {D D' : Nat → Prop} (h : Gr D w g cs) (hD : ∀ k, D k → D' k) : Gr D' w g cs := by
  obtain ⟨h1, h2, A, cap, h5, h6⟩ := h
  exact ⟨h1, h2, A, cap, h5, fun q hq => hD q (h6 q hq)⟩
theorem new_grd (w : World) : Calls Tryz.prog 49 #[] w fun e w' => ∃ g F, e = .returned (pt g) ∧ Grd F w' g [] ∧ Keep none_ w w' ∧ (∀ q, F q → w.heap.size ≤ q) := (new_spec (fun q => w.heap.size ≤ q) w).mono (by
  rintro e w' ⟨g, rfl, h1, h2, h3⟩
  have hg : g < w'.heap.size := by obtain ⟨_, _, A, cap, h, _⟩ := h1; exact h.blk.lt
  exact ⟨g, fun q => w.heap.size ≤ q ∧ q < w'.heap.size, rfl, Grd.of h1 ⟨h3, hg⟩ (fun q h1 h2 => ⟨h2, h1⟩) (fun q h => h.2), h2, fun q h => h.1⟩)
end Go.Al.GR
namespace Go.Al
open Go Go.RowKit Go.Proofs
structure Ci where
  a : Int
  b : Int
  v : Int
def Ci.cells (c : Ci) : List Value := [nt c.a, nt c.b, nt c.v]
theorem Ci.len (c : Ci) : c.cells.length = 3 := rfl
theorem Ci.one (c : Ci) : ∀ u ∈ c.cells, u.oneCell' = true := one_all' rfl
def ordC (a b : Int) (c : Ci) : Int := orI [cmpI c.a a, cmpI c.b b]
end Go.Al
namespace Go.Al
open Go Go.RowKit Go.Proofs
def ltC (a b a' b' : Int) : Prop := a < a' ∨ (a = a' ∧ b < b')
instance (a b a' b' : Int) : Decidable (ltC a b a' b') := by unfold ltC; infer_instance
theorem ordC_neg (a b : Int) (c : Ci) : ordC a b c < 0 ↔ ltC c.a c.b a b := by
  unfold ordC ltC
  simp only [orI, cmpI]
  rcases Int.lt_trichotomy c.a a with h1 | h1 | h1 <;> rcases Int.lt_trichotomy c.b b with h2 | h2 | h2 <;> simp_all <;> (repeat' split) <;> omega
theorem ltC_trans {a b c d e f : Int} (h : ltC a b c d) (k : ltC c d e f) : ltC a b e f := by unfold ltC at *; omega
def Srt (cs : List Ci) : Prop := cs.Pairwise fun x y => ltC x.a x.b y.a y.b
theorem Srt.mono {cs : List Ci} (h : Srt cs) (a b : Int) (i j : Nat) (x y : Ci) (hij : i ≤ j) (hx : cs[i]? = some x) (hy : cs[j]? = some y) (hlt : ordC a b y < 0) : ordC a b x < 0 := by
  rw [ordC_neg] at *
  rcases Nat.lt_or_eq_of_le hij with hij | rfl
  · obtain ⟨h1, rfl⟩ := List.getElem?_eq_some_iff.1 hx
    obtain ⟨h2, rfl⟩ := List.getElem?_eq_some_iff.1 hy
    exact ltC_trans (List.pairwise_iff_getElem.1 h i j h1 h2 hij) hlt
  · rw [hx] at hy; cases hy; exact hlt
structure GrAt (w : World) (g : Nat) (A : Option Addr) (cap : Nat) (cs : List Ci) : Prop where
  blk : Blk w g [.slice A cs.length cap] 155
  sl : SlT w 3 Ci.cells A cap cs
  off : ¬ inA A g
def Gr (D : Nat → Prop) (w : World) (g : Nat) (cs : List Ci) : Prop := Srt cs ∧ cs.length ≤ 100000 ∧ ∃ A cap, GrAt w g A cap cs ∧ ∀ k, inA A k → D k
theorem new_spec (D : Nat → Prop) (w : World) : Calls Tryz.prog 38 #[] w fun e w' => ∃ g, e = .returned (pt g) ∧ Gr D w' g [] ∧ Keep none_ w w' ∧ w.heap.size ≤ g := by
 have hK0 := Keep.refl none_ w
 refine eV ?_
 refine Vr <| On 1 [] <| Oer <| On 1 [1] <| Bx 155 [.slice none 0 0] ?_
 intro b1 w1 e1 hb1 k1 z1
 have hsz2 := Keep.size k1
 replace hK0 := hK0.tn k1
 have hb1lt := hb1.lt
 refine Ose [(0, pt b1)] <| V_ret ?_
 exact X_return _ rfl ⟨_, rfl, ⟨List.Pairwise.nil, by simp, none, 0, ⟨hb1, SlT.nil _ _ _, fun h => inA_none h⟩, fun k hk => (inA_none hk).elim⟩, hK0, by omega⟩
def setC (a b v : Int) : List Ci → List Ci
  | [] => [⟨a, b, v⟩]
  | x :: l => if x.a = a ∧ x.b = b then ⟨a, b, v⟩ :: l else if ltC x.a x.b a b then x :: setC a b v l else ⟨a, b, v⟩ :: x :: l
end Go.Al
namespace Go.Al
open Go Go.RowKit Go.Proofs
theorem setC_mem {a b v : Int} {y : Ci} : ∀ {cs : List Ci}, y ∈ setC a b v cs → (y.a = a ∧ y.b = b) ∨ y ∈ cs
  | [], h => by simp only [setC, List.mem_singleton] at h; subst h; exact .inl ⟨rfl, rfl⟩
  | x :: l, h => by
    simp only [setC] at h
    split at h
    · rcases List.mem_cons.1 h with rfl | h
      · exact .inl ⟨rfl, rfl⟩
      · exact .inr (List.mem_cons_of_mem _ h)
    · split at h
      · rcases List.mem_cons.1 h with rfl | h
        · exact .inr (List.mem_cons_self ..)
        · exact (setC_mem h).imp id (List.mem_cons_of_mem _)
      · rcases List.mem_cons.1 h with rfl | h
        · exact .inl ⟨rfl, rfl⟩
        · exact .inr h
theorem Srt.set {a b v : Int} : ∀ {cs : List Ci}, Srt cs → Srt (setC a b v cs) ∧ (setC a b v cs).length ≤ cs.length + 1
  | [], _ => ⟨by simp [setC, Srt], by simp [setC]⟩
  | x :: l, h => by
    have h := List.pairwise_cons.1 h
    simp only [setC]
    split
    · rename_i he
      exact ⟨List.pairwise_cons.2 ⟨fun y hy => by have := h.1 y hy; rw [he.1, he.2] at this; exact this, h.2⟩, by simp⟩
    · rename_i he
      split
      · rename_i hlt
        obtain ⟨h1, h2⟩ := Srt.set (a := a) (b := b) (v := v) h.2
        refine ⟨List.pairwise_cons.2 ⟨fun y hy => ?_, h1⟩, by simpa using h2⟩
        rcases setC_mem hy with ⟨e1, e2⟩ | hy
        · rw [e1, e2]; exact hlt
        · exact h.1 y hy
      · rename_i hnl
        have hgt : ltC a b x.a x.b := by unfold ltC at *; omega
        refine ⟨List.pairwise_cons.2 ⟨fun y hy => ?_, List.pairwise_cons.2 h⟩, by simp⟩
        rcases List.mem_cons.1 hy with rfl | hy
        · exact hgt
        · exact ltC_trans hgt (h.1 y hy)
end Go.Al
namespace Go.Al
open Go Go.RowKit Go.Proofs
def encC (cs : List Ci) (k : Nat) : Array Value := match cs[k]? with | some c => #[.agg #[nt c.a, nt c.b], nt c.v] | none => #[undef, undef]
theorem encC_at {cs : List Ci} {k : Nat} {c : Ci} (h : cs[k]? = some c) : encC cs k = #[.agg #[nt c.a, nt c.b], nt c.v] := by unfold encC; rw [h]
theorem encC_size (cs : List Ci) (k : Nat) : (encC cs k).size = 2 := by unfold encC; split <;> rfl
theorem cells1_iter (c g cap : Nat) (A : Option Addr) (cs : List Ci) (hn : cs.length ≤ 1000000) : Iter Tryz.prog 118 #[pt c] cs.length (encC cs) (fun W => Blk W c [pt g] 102 ∧ GrAt W g A cap cs) (fun W => SlT W 3 Ci.cells A cap cs) := by
 intro l J Jx w hPre hJ hJx hY hOk h0
 obtain ⟨hc, h⟩ := hPre
 have hg := h.blk
 have hA := h.sl
 have hglt := hg.lt
 have hclt := hc.lt
 show Calls Tryz.prog 118 #[.func (.yield l) #[] #[], pt c] w _
 have hK0 := Keep.refl none_ w
 refine eV ?_
 refine V_seq <| Vr <| Lr 0 (pt g) hc <| Oen [0, 1, 6] <| Vf <| Vsk <| Vr <| Lr 0 (pt g) hc <| On 3 [0, 9] <| Lr 0 (.slice A cs.length cap) hg <| Oen [0, 10, 11, 12] <| V_block ?_
 have hj0 := hJ 0 _ _ h0 (Keep.ofNone hK0)
 refine Vp [(0, .func (.yield l) #[] #[]),(10, .slice A cs.length cap),(11, nt (cs.length : Int)),(12, nt 0)] <| V_loop (fun k wI e => ∃ i : Nat, (k + i = cs.length) ∧ (J i wI) ∧ e = [(0, .func (.yield l) #[] #[]),(10, .slice A cs.length cap),(11, nt (cs.length : Int)),(12, nt (i : Int))]) cs.length ⟨0, rfl, hj0, rfl⟩ ?_
 rintro k2 w1 _ ⟨i, hki, hj, rfl⟩
 have hA := hOk _ _ hj
 have hkh : Keep none_ w1 w1 := Keep.refl _ _
 have hzhkh := Keep.size hkh
 refine Vs [(0, .func (.yield l) #[] #[]),(10, .slice A cs.length cap),(11, nt (cs.length : Int)),(12, nt (i : Int)),(13, .bool (decide ((i : Int) < (cs.length : Int))))] <| V_seq <| Vi ((i : Int) < (cs.length : Int)) (fun hc4 => ?_) (fun hc4 => ?_)
 ·
  refine Vsk <| V_seq <| V_block <| Vr ?_
  obtain ⟨b5, o5, L5, T5, rfl, hat5⟩ := SlT.opn hA
  have hb5lt := hat5.blk.lt
  refine Oi (b := b5) (o := o5) (len := cs.length) (cap := cap) (j := i) (some 14) 153 (.tmp 10) (.tmp 12) 197 3 24 .i64 ?_
  obtain ⟨x6, hx7⟩ := exAt (xs := cs) (i := i)
  refine La (o5 + i * 3) (Ci.cells x6) 3 hat5.blk (At.elem' hat5 (es_at hx7)) (At.len hat5 (es_at hx7)) <| Alc_ 197 (.agg #[nt 0, nt 0, nt 0]) [nt 0, nt 0, nt 0] ?_
  intro b8 w8 e8 hb8 k8 z8
  have hsz9 := Keep.size k8
  replace hkh := hkh.tn k8
  have hb8lt := hb8.lt
  refine Sg 0 (Ci.cells x6) hb8 (Ci.len _) (Ci.one _) ?_
  intro w10 hb8_13 hk11 hz12
  replace hb8_13 : Blk w10 b8 (Ci.cells x6) 197 := (by rwa [over_whole (by rw [Ci.len]; rfl)] at hb8_13)
  have hsz14 := Keep.size hk11
  replace hkh := Keep.fr hkh hk11
  refine Oer <| On 2 [0, 4, 10, 11, 12, 16, 17] <| La 0 [nt x6.a, nt x6.b] 2 hb8_13 rfl rfl <| Os 4 [(0, .func (.yield l) #[] #[]),(10, sl_ b5 o5 cs.length cap),(11, nt (cs.length : Int)),(12, nt (i : Int)),(16, .func (.yield l) #[] #[]),(18, .agg #[nt x6.a, nt x6.b]),(19, po_ b8 2)] <| Oc 3 (.tmp 19) 2 (nt x6.v) (some 20) hb8_13 rfl <| OI_yield { callee := (Callee.value (Operand.tmp 16)), args := #[(Operand.tmp 18),(Operand.tmp 20)], argTypes := #[145, 3] } l #[.agg #[nt x6.a, nt x6.b], nt x6.v] (some 21) (by kernel_rfl) (by kernel_rfl) (by have hy := hY i _ (by omega) (hJ i _ _ hj (Keep.ofNone hkh)); rw [encC_at hx7] at hy; exact hy) ?_
  rintro _ w15 (⟨rfl, hj16⟩ | ⟨rfl, hj16⟩)
  ·
   refine ⟨_, rfl, ?_⟩
   refine Oen [0, 10, 11, 12, 22] <| Vf <| V_skip <| X_block <| X_then <| V_region ?_
   have hw17 : i64.wrap ((i : Int) + 1) = ((i + 1 : Nat) : Int) := wrp
   refine On 1 [0, 10, 11, 23] <| Oq (u := nt (i64.wrap ((i : Int) + 1))) (v := nt ((i + 1 : Nat) : Int)) 23 (by rw [hw17]) <| Os 2 [(0, .func (.yield l) #[] #[]),(10, sl_ b5 o5 cs.length cap),(11, nt (cs.length : Int)),(12, nt ((i + 1 : Nat) : Int))] <| OI_end rfl ?_
   exact V_again (k2 - 1) (by omega) [(0, .func (.yield l) #[] #[]),(10, sl_ b5 o5 cs.length cap),(11, nt (cs.length : Int)),(12, nt ((i + 1 : Nat) : Int))] rfl ⟨i + 1, by omega, hj16, rfl⟩
  ·
   refine ⟨_, rfl, ?_⟩
   refine Ose [(0, .func (.yield l) #[] #[]),(10, sl_ b5 o5 cs.length cap),(11, nt (cs.length : Int)),(12, nt (i : Int)),(22, .bool true)] <| Vo <| V_ret <| X_ret_block <| X_ret_then <| X_ret_then <| X_ret_block ?_
   exact X_return _ rfl ⟨⟨_, rfl⟩, .inr ⟨i + 1, by omega, hj16⟩⟩
 refine V_exit <| X_exit_then <| X_exit_then <| X_exit_here ?_
 have he : i = cs.length := by omega
 rw [he] at hj
 exact X_end _ rfl ⟨⟨_, rfl⟩, .inl (hJ _ _ _ hj (Keep.ofNone hkh))⟩
theorem cellsfn_spec (v : Value) (hv : v.cells = [v].toArray) (w : World) : Calls Tryz.prog 117 #[v] w fun e w' => ∃ c, e = .returned (.func (.func 118) #[] #[pt c]) ∧ Blk w' c [v] 102 ∧ Keep none_ w w' ∧ w.heap.size ≤ c := by
 have hK0 := Keep.refl none_ w
 refine eV ?_
 refine Vr <| OI_box 102 (.tmp 0) v [v] (some 1) (by kernel_rfl) (by kernel_rfl) hv ?_
 intro b1 w1 e1 hb1 k1 z1
 have hsz2 := Keep.size k1
 replace hK0 := hK0.tn k1
 have hb1lt := hb1.lt
 refine On 2 [1] <| Oer <| Ose [(2, .func (.func 118) #[] #[pt b1])] <| V_ret ?_
 exact X_return _ rfl ⟨_, rfl, hb1, hK0, by omega⟩
end Go.Al
namespace Go.Al
open Go Go.RowKit Go.Proofs
variable {cs : List Ci} {k : Nat} {n : Int}
def rowL (n : Int) (cs : List Ci) : List (Int × Int) := (cs.filter fun c => c.a == n).map fun c => (c.b, c.v)
def enc2 (xs : List (Int × Int)) (k : Nat) : Array Value := match xs[k]? with | some p => #[nt p.1, nt p.2] | none => #[undef, undef]
theorem enc2_at {xs : List (Int × Int)} {p : Int × Int} (h : xs[k]? = some p) : enc2 xs k = #[nt p.1, nt p.2] := by unfold enc2; rw [h]
theorem enc2_size (xs : List (Int × Int)) (k : Nat) : (enc2 xs k).size = 2 := by unfold enc2; split <;> rfl
theorem fm_step {α β : Type} (p : α → Bool) (f : α → β) {cs : List α} {c : α} (h : cs[k]? = some c) : ((cs.take (k + 1)).filter p).map f = if p c then ((cs.take k).filter p).map f ++ [f c] else ((cs.take k).filter p).map f := by
  obtain ⟨h1, rfl⟩ := List.getElem?_eq_some_iff.1 h
  rw [List.take_succ_eq_append_getElem h1, List.filter_append, List.map_append]
  by_cases hp : p cs[k] = true <;> simp [hp]
theorem fm_at {α β : Type} (p : α → Bool) (f : α → β) {cs : List α} {c : α} (h : cs[k]? = some c) (hp : p c = true) : (((cs.filter p).map f)[(((cs.take k).filter p).map f).length]? = some (f c)) ∧ (((cs.take k).filter p).map f).length < ((cs.filter p).map f).length := by
  have h2 := fm_step p f h
  rw [if_pos hp] at h2
  have h3 : (cs.filter p).map f = (((cs.take k).filter p).map f ++ [f c]) ++ ((cs.drop (k + 1)).filter p).map f := by
    rw [← h2, ← List.map_append, ← List.filter_append, List.take_append_drop]
  rw [h3]
  exact ⟨by simp, by simp⟩
theorem rowL_step {c : Ci} (h : cs[k]? = some c) : rowL n (cs.take (k + 1)) = if c.a = n then rowL n (cs.take k) ++ [(c.b, c.v)] else rowL n (cs.take k) := by
  have := fm_step (fun c : Ci => c.a == n) (fun c => (c.b, c.v)) h
  simpa [rowL] using this
theorem rowL_at {c : Ci} (h : cs[k]? = some c) (hc : c.a = n) : (rowL n cs)[(rowL n (cs.take k)).length]? = some (c.b, c.v) ∧ (rowL n (cs.take k)).length < (rowL n cs).length := fm_at (fun c : Ci => c.a == n) (fun c => (c.b, c.v)) h (by simp [hc])
structure AlOk (bs bn : Nat) (s n : Int) (A : Option Addr) (cap : Nat) (cs : List Ci) (W : World) : Prop where
  side : Blk W bs [nt s] 3
  num : Blk W bn [nt n] 3
  sl : SlT W 3 Ci.cells A cap cs
theorem AlOk.quiet {N bs bn : Nat} {s : Int} {A : Option Addr} {cap : Nat} {W W' : World} (h : AlOk bs bn s n A cap cs W) (k : Keep (lb N W) W W') : AlOk bs bn s n A cap cs W' := ⟨h.1.quiet k, h.2.quiet k, h.3.quiet k⟩
theorem GrAt.quiet {N g cap : Nat} {A : Option Addr} {W W' : World} (h : GrAt W g A cap cs) (k : Keep (lb N W) W W') : GrAt W' g A cap cs := ⟨h.blk.quiet k, h.sl.quiet k, h.off⟩
theorem along1_iter0 (bg bs bn g cap : Nat) (A : Option Addr) (cs : List Ci) (n : Int) (hn : cs.length ≤ 1000000) : Iter2 Tryz.prog 116 #[pt bg, pt bs, pt bn] (rowL n cs).length (enc2 (rowL n cs)) (fun W => Blk W bg [pt g] 102 ∧ GrAt W g A cap cs ∧ AlOk bs bn 0 n A cap cs W) (AlOk bs bn 0 n A cap cs) := by
 intro l J Jx w hPre hJ hJx hY hOk h0
 obtain ⟨hbg, h, ho⟩ := hPre
 have hbs := ho.side
 have hbn := ho.num
 have hg := h.blk
 have hA := h.sl
 have hglt := hg.lt
 have hgA := h.off
 have hbslt := hbs.lt
 have hbnlt := hbn.lt
 have hbglt := hbg.lt
 show Calls Tryz.prog 116 #[.func (.yield l) #[] #[], pt bg, pt bs, pt bn] w _
 have hK0 := Keep.refl none_ w
 refine enterM Tryz.func116 rfl [.func (.yield l) #[] #[], pt bg, pt bs, pt bn] 26 rfl rfl rfl ?_
 refine Vp [(0, .func (.yield l) #[] #[]),(1, pt bg),(2, pt bs),(3, pt bn)] <| Vr <| Bx 191 [.func (.yield l) #[] #[]] ?_
 intro b1 w1 e1 hb1 k1 z1
 have hsz2 := Keep.size k1
 replace hbg := hbg.k0 k1
 replace hK0 := hK0.tn k1
 have hb1lt := hb1.lt
 refine Oer <| Lr 0 (pt g) hbg <| Ok (kL 117 #[(.tmp 7)] #[102]) 117 #[pt g] (some 8) (cellsfn_spec _ rfl _) ?_
 rintro _ w3 ⟨c5, rfl, hc5, hk4, hgec5⟩
 refine ⟨_, rfl, ?_⟩
 have hsz6 := Keep.size hk4
 replace hbs := hbs.k0 (k1.tr hk4)
 replace hbn := hbn.k0 (k1.tr hk4)
 replace hg := hg.k0 (k1.tr hk4)
 replace hb1 := hb1.k0 hk4
 replace hA := hA.keep0 (k1.tr hk4)
 replace hK0 := hK0.tn hk4
 have hc5lt := hc5.lt
 refine Oe <| V_block ?_
 have hb4ge : w.heap.size ≤ b1 := by omega
 refine Vp [(2, pt bs),(3, pt bn),(4, pt b1),(8, .func (.func 118) #[] #[pt c5])] ?_
 have hN0 : w.heap.size ≤ w3.heap.size := Keep.size hK0
 refine V_range2 (gf := 118) (caps := #[pt c5]) (m := cs.length) (by kernel_rfl) (by kernel_rfl) (by kernel_rfl) ((cells1_iter c5 g cap A cs hn).to2) (⟨hc5, ⟨hg, hA, hgA⟩⟩) (fun W W' h k => ⟨h.1.quiet k, h.2.quiet k⟩) (encC_size cs) (fun M1 k W => (Blk W bs [nt 0] 3) ∧ (Blk W bn [nt n] 3) ∧ (Blk W b1 [.func (.yield l) #[] #[]] 191) ∧ (J M1 (rowL n (cs.take k)).length W)) (fun M1 c k W => (c = .ret ∧ ∃ q : Nat, (Jx M1 q W) ∧ (q ≤ (rowL n cs).length))) (fun M1 k W W' h hk => by obtain ⟨jbs, jbn, jb1, jj⟩ := h; exact ⟨jbs.quiet hk, jbn.quiet hk, jb1.quiet hk, (((hJ _ _).mono (by omega)) _ _ jj hk)⟩) (fun M1 c k W W' h hk => by obtain ⟨hc, q, xx, hq⟩ := h; exact ⟨hc, q, (((hJx _ _).mono (by omega)) _ _ xx hk), hq⟩) (fun M1 hM1 => ⟨hbs, hbn, hb1, hJ _ _ _ _ (h0 _ (by omega)) (Keep.ofNone hK0)⟩) (fun M1 k W h => by obtain ⟨jbs, jbn, jb1, jj⟩ := h; exact (hOk _ _ _ jj).sl) ?_ ?_ ?_
 ·
  intro lp D M1 k W hD hl hM hMW hkm ⟨jbs, jbn, jb1, jj⟩ ⟨rr, hrr⟩ hDD
  have hbslt := jbs.lt
  have hbnlt := jbn.lt
  have hb1lt := jb1.lt
  obtain ⟨x, hx⟩ : ∃ x, cs[k]? = some x := ⟨_, List.getElem?_eq_getElem (by omega)⟩
  rw [encC_at hx]
  refine Vp [(2, pt bs),(3, pt bn),(4, pt b1),(9, .agg #[nt x.a, nt x.b]),(10, nt x.v)] ?_
  have hfen : Keep (fen w3.heap.size M1) W W := Keep.refl _ _
  have hzhfen := Keep.size hfen
  have hkj : Keep none_ W W := Keep.refl _ _
  have hzhkj := Keep.size hkj
  refine Vr <| Alc_ 145 (.agg #[nt 0, nt 0]) [nt 0, nt 0] ?_
  intro b7 w7 e7 hb7 k7 z7
  have hsz8 := Keep.size k7
  replace jbs := jbs.k0 k7
  replace jbn := jbn.k0 k7
  replace jb1 := jb1.k0 k7
  replace hfen := hfen.tn k7
  replace hkj := hkj.tn k7
  have hb7lt := hb7.lt
  refine OI_set (m := 2) (kd := true) 145 (.tmp 5) (.tmp 9) 0 (.agg #[nt x.a, nt x.b]) [nt x.a, nt x.b] none (by kernel_rfl) (by kernel_rfl) (by kernel_rfl) hb7 (by kernel_rfl) (by kernel_rfl) (by kernel_rfl) (Nat.le_of_ble_eq_true (by kernel_rfl)) (by simp [Value.oneCell']) ?_
  intro w9 hb7_12 hk10 hz11
  replace hb7_12 : Blk w9 b7 [nt x.a, nt x.b] 145 := hb7_12
  have hsz13 := Keep.size hk10
  replace jbs := jbs.k1 hk10
  replace jbn := jbn.k1 hk10
  replace jb1 := jb1.k1 hk10
  replace hfen := Keep.fresh hfen hk10 (by intro i hi hs; have hs2 : i = b7 := hs; show _ ∨ _; omega)
  replace hkj := Keep.fr hkj hk10
  refine Oe <| V_region <| Os 1 [(2, pt bs),(3, pt bn),(4, pt b1),(5, pt b7),(6, nt x.v)] <| OI_end rfl <| X_begin2 hfen ?_
  intro W2 hk2 ⟨r2, hr2⟩ hD2
  have hsz14 := Keep.size hk2
  replace jbs := Blk.quiet jbs hk2
  replace jbn := Blk.quiet jbn hk2
  replace jb1 := Blk.quiet jb1 hk2
  replace hb7_12 := Blk.quiet hb7_12 hk2
  replace jj := hJ _ _ _ _ jj (Keep.ofNone hkj); replace jj := (hJ _ _).mono (by omega : w.heap.size ≤ w3.heap.size) _ _ jj hk2; replace hkj := Keep.refl none_ W2
  have hzhk2 := Keep.size hk2
  have hfenb : Keep (fen w3.heap.size M1) W2 W2 := Keep.refl _ _
  have hzhfenb := Keep.size hfenb
  have hzhkj := Keep.size hkj
  refine V_block <| V_seq <| V_draws (acts [12]) none_ [[0, 1, 2, 3, 4, 5, 6, 7, 8, 9, 10, 11, 12, 13, 14]] (by kernel_rfl) (by repeat first | exact (by first | exact sure_postM | exact sure_rQ2 | exact sure_no | exact sure_body (by rintro _ _ ⟨h, _⟩; exact ⟨_, h⟩)) | refine sure_then ?_ | refine sure_block ?_ | refine sure_join ?_) (by kernel_rfl) ?_
  intro w16 hk15 he17 L hL18
  have hsz19 := Keep.size hk15
  replace jbs := jbs.k0 hk15
  replace jbn := jbn.k0 hk15
  replace jb1 := jb1.k0 hk15
  replace hb7_12 := hb7_12.k0 hk15
  replace hkj := hkj.tn hk15
  replace hfenb := hfenb.tn hk15
  have qjbs := jbs
  have qjbn := jbn
  have qjb1 := jb1
  have qhb7_12 := hb7_12
  have K20 : Keep none_ w16 w16 := Keep.refl _ _
  obtain rfl := List.mem_singleton.1 hL18
  refine Mr 0 (nt 0) qjbs <| Gn [2, 3, 4, 5, 6, 7, 8, 9, 10, 11, 12, 13, 14] [2, 3, 4, 5, 6, 12] <| Mr 0 (nt x.a) qhb7_12 <| Mr 0 (nt n) qjbn <| Gn [6, 7, 8, 9, 10, 11, 12, 13, 14] [2, 4, 5, 6, 16] ?_
  by_cases hg21 : x.a = n
  ·
   refine Et 16 hg21 <| Mr 0 (.func (.yield l) #[] #[]) qjb1 <| Mr 0 (nt 0) qjbs <| Gn [10, 11, 12, 13, 14] [6, 16, 17, 20] <| Mr 1 (nt x.b) qhb7_12 <| Gs [12, 13, 14] [(16, .bool true),(17, .func (.yield l) #[] #[]),(21, nt x.b),(22, nt x.v)] ?_
   obtain ⟨hat, hlt⟩ := rowL_at hx hg21
   refine GI_yield0 { callee := (Callee.value (Operand.tmp 17)), args := #[(Operand.tmp 21),(Operand.tmp 22)], argTypes := #[3, 3] } l #[nt x.b, nt x.v] (some 23) (by kernel_rfl) (by kernel_rfl) (by kernel_rfl) (by kernel_rfl) (by have hy := hY M1 _ _ (by omega) (by omega) hlt (hJ _ _ _ _ jj (Keep.ofNone hkj)); rw [enc2_at hat] at hy; exact hy) ?_
   rintro _ w22 ⟨hk24, (⟨rfl, hj23⟩ | ⟨rfl, hj23⟩)⟩
   ·
    refine ⟨_, rfl, ?_⟩
    have hsz25 := Keep.size hk24
    replace jb1 := jb1.keep hk24 (by show ¬ (_ ∨ _); omega)
    replace hfenb := Keep.fresh hfenb hk24 (by intro i hi hs; rcases hs with hs | hs; exact .inl (by omega); exact .inr hs)
    have hok26 := hOk _ _ _ hj23
    have hok26s := hok26.side
    have hok26n := hok26.num
    refine Gs [] [(25, .bool false)] <| GI_end <| X_then <| Vf <| V_skip <| X_block ?_
    exact fun a _ => ⟨hfenb, hok26s, hok26n, jb1, by rw [rowL_step hx, if_pos hg21]; simpa using hj23⟩
   ·
    refine ⟨_, rfl, ?_⟩
    have hsz27 := Keep.size hk24
    replace hfenb := Keep.fresh hfenb hk24 (by intro i hi hs; rcases hs with hs | hs; exact .inl (by omega); exact .inr hs)
    refine Gs [] [(25, .bool true)] <| GI_end <| X_then <| Vo <| V_ret <| X_ret_block ?_
    exact fun a _ => ⟨hfenb, ⟨rfl, _, hj23, by omega⟩⟩
  refine Ef 16 hg21 <| Gs [] [(25, .bool false)] <| GI_end <| X_then <| Vf <| V_skip <| X_block ?_
  exact fun a _ => ⟨hfenb, jbs, jbn, jb1, hJ _ _ _ _ (by rw [rowL_step hx, if_neg hg21]; exact jj) (Keep.ofNone hkj)⟩
 ·
  intro D M1 W hD hM ⟨jbs, jbn, jb1, jj⟩ hDD
  have hbslt := jbs.lt
  have hbnlt := jbn.lt
  have hb1lt := jb1.lt
  refine X_block ?_
  rw [List.take_length] at jj
  exact leave1 (.tuple #[]) (.inr rfl) hDD (fun w' hk => ⟨res_tmps rfl, ⟨_, rfl⟩, M1, by omega, .inl (((hJ _ _).mono (by omega)) _ _ jj hk)⟩)
 ·
  intro D M1 k c W hD hM hkm h hDD
  obtain ⟨hc, q, xx, hq⟩ := h
  subst hc
  refine V_ret <| X_ret_block ?_
  exact leave1 (.tuple #[]) (.inl rfl) hDD (fun w' hk => ⟨res_tmps rfl, ⟨_, rfl⟩, M1, by omega, .inr ⟨q, hq, ((hJx _ _).mono (by omega)) _ _ xx hk⟩⟩)
theorem alongfn_spec (v : Value) (hv : v.cells = [v].toArray) (s n : Int) (w : World) : Calls Tryz.prog 115 #[v, nt s, nt n] w fun e w' => ∃ bg bs bn, e = .returned (.func (.func 116) #[] #[pt bg, pt bs, pt bn]) ∧ Blk w' bg [v] 102 ∧ Blk w' bs [nt s] 3 ∧ Blk w' bn [nt n] 3 ∧ Keep none_ w w' ∧ w.heap.size ≤ bg ∧ w.heap.size ≤ bs ∧ w.heap.size ≤ bn := by
 have hK0 := Keep.refl none_ w
 refine eV ?_
 refine Vr <| OI_box 102 (.tmp 0) v [v] (some 3) (by kernel_rfl) (by kernel_rfl) hv ?_
 intro b1 w1 e1 hb1 k1 z1
 have hsz2 := Keep.size k1
 replace hK0 := hK0.tn k1
 have hb1lt := hb1.lt
 refine Bx 3 [nt s] ?_
 intro b3 w3 e3 hb3 k3 z3
 have hsz4 := Keep.size k3
 replace hK0 := hK0.tn k3
 have hb3lt := hb3.lt
 refine Bx 3 [nt n] ?_
 intro b5 w5 e5 hb5 k5 z5
 have hsz6 := Keep.size k5
 replace hb1 := hb1.k0 (k3.tr k5)
 replace hb3 := hb3.k0 k5
 replace hK0 := hK0.tn k5
 have hb5lt := hb5.lt
 refine On 4 [3, 4, 5] <| Oer <| Ose [(6, .func (.func 116) #[] #[pt b1, pt b3, pt b5])] <| V_ret ?_
 exact X_return _ rfl ⟨_, _, _, rfl, hb1, hb3, hb5, hK0, by omega, by omega, by omega⟩
theorem row_spec (v : Value) (hv : v.cells = [v].toArray) (n : Int) (w : World) : Calls Tryz.prog 113 #[v, nt n] w fun e w' => ∃ bg bs bn, e = .returned (.func (.func 116) #[] #[pt bg, pt bs, pt bn]) ∧ Blk w' bg [v] 102 ∧ Blk w' bs [nt 0] 3 ∧ Blk w' bn [nt n] 3 ∧ Keep none_ w w' ∧ w.heap.size ≤ bg ∧ w.heap.size ≤ bs ∧ w.heap.size ≤ bn := by
 have hK0 := Keep.refl none_ w
 refine eV ?_
 refine Vr <| On 1 [0, 1] <| Oer <| On 2 [5, 6] <| Kg (alongfn_spec v hv 0 n _) ?_
 rintro _ w1 ⟨bg, bs, bn, rfl, h1, h2, h3, hk2, h4, h5, h6⟩
 refine ⟨_, rfl, ?_⟩
 have hsz3 := Keep.size hk2
 replace hK0 := hK0.tn hk2
 refine Ose [(4, .func (.func 116) #[] #[pt bg, pt bs, pt bn])] <| V_ret ?_
 exact X_return _ rfl ⟨_, _, _, rfl, h1, h2, h3, hK0, h4, h5, h6⟩
end Go.Al
namespace Go.Al
open Go Go.RowKit Go.Proofs
variable {F : Nat → Prop} {cs : List Ci} {g : Nat} {w : World}
theorem Srt.nil : Srt [] := List.Pairwise.nil
def Grd (F : Nat → Prop) (w : World) (g : Nat) (cs : List Ci) : Prop := Srt cs ∧ cs.length ≤ 100000 ∧ F g ∧ (∀ q, F q → q < w.heap.size) ∧ ∃ A cap, GrAt w g A cap cs ∧ ∀ q, inA A q → F q
theorem Grd.lt (h : Grd F w g cs) : ∀ q, F q → q < w.heap.size := h.2.2.2.1
theorem Grd.at_ (h : Grd F w g cs) : F g := h.2.2.1
theorem Grd.len (h : Grd F w g cs) : cs.length ≤ 100000 := h.2.1
theorem Grd.keep {S : Nat → Prop} {w' : World} (h : Grd F w g cs) (k : Keep S w w') (hS : ∀ q, F q → ¬ S q) : Grd F w' g cs := by
  obtain ⟨h1, h2, h3, h4, A, cap, h5, h6⟩ := h
  exact ⟨h1, h2, h3, fun q hq => Nat.lt_of_lt_of_le (h4 q hq) k.size, A, cap, ⟨h5.blk.keep k (hS _ h3), h5.sl.keep k (fun q hq => hS q (h6 q hq)), h5.off⟩, h6⟩
theorem Grd.quiet {N : Nat} {w' : World} (h : Grd F w g cs) (k : Keep (lb N w) w w') : Grd F w' g cs := by
  obtain ⟨h1, h2, h3, h4, A, cap, h5, h6⟩ := h
  exact ⟨h1, h2, h3, fun q hq => Nat.lt_of_lt_of_le (h4 q hq) k.size, A, cap, h5.quiet k, h6⟩
theorem Grd.mono {F' : Nat → Prop} (h : Grd F w g cs) (hF : ∀ q, F q → F' q) (hlt : ∀ q, F' q → q < w.heap.size) : Grd F' w g cs := by
  obtain ⟨h1, h2, h3, h4, A, cap, h5, h6⟩ := h
  exact ⟨h1, h2, hF _ h3, hlt, A, cap, h5, fun q hq => hF q (h6 q hq)⟩
theorem Grd.of {D : Nat → Prop} (h : Gr D w g cs) (hg : F g) (hD : ∀ q, q < w.heap.size → D q → F q) (hlt : ∀ q, F q → q < w.heap.size) : Grd F w g cs := by
  obtain ⟨h1, h2, A, cap, h5, h6⟩ := h
  exact ⟨h1, h2, hg, hlt, A, cap, h5, fun q hq => hD q (h5.sl.lt q hq) (h6 q hq)⟩
theorem Grd.gr (h : Grd F w g cs) : Gr F w g cs := by
  obtain ⟨h1, h2, h3, h4, A, cap, h5, h6⟩ := h
  exact ⟨h1, h2, A, cap, h5, h6⟩
def more (F : Nat → Prop) (w w' : World) : Nat → Prop := fun q => F q ∨ (w.heap.size ≤ q ∧ q < w'.heap.size)
theorem Gr.mono {D D' : Nat → Prop} (h : Gr D w g cs) (hD : ∀ k, D k → D' k) : Gr D' w g cs := by
  obtain ⟨h1, h2, A, cap, h5, h6⟩ := h
  exact ⟨h1, h2, A, cap, h5, fun q hq => hD q (h6 q hq)⟩
theorem new_grd (w : World) : Calls Tryz.prog 38 #[] w fun e w' => ∃ g F, e = .returned (pt g) ∧ Grd F w' g [] ∧ Keep none_ w w' ∧ (∀ q, F q → w.heap.size ≤ q) := (new_spec (fun q => w.heap.size ≤ q) w).mono (by
  rintro e w' ⟨g, rfl, h1, h2, h3⟩
  have hg : g < w'.heap.size := by obtain ⟨_, _, A, cap, h, _⟩ := h1; exact h.blk.lt
  exact ⟨g, fun q => w.heap.size ≤ q ∧ q < w'.heap.size, rfl, Grd.of h1 ⟨h3, hg⟩ (fun q h1 h2 => ⟨h2, h1⟩) (fun q h => h.2), h2, fun q h => h.1⟩)
end Go.Al
namespace Go.Al
open Go Go.RowKit Go.Proofs
variable {F : Nat → Prop} {a : Int} {cs : List Ci} {j l : Nat} {w : World}
structure Acc where
  free : Int
  held : Int
def Acc.cells (x : Acc) : List Value := [nt x.free, nt x.held]
theorem Acc.len (x : Acc) : x.cells.length = 2 := rfl
theorem Acc.one (x : Acc) : ∀ u ∈ x.cells, u.oneCell' = true := one_all' rfl
def tot : List Acc → Int
  | [] => 0
  | x :: l => x.free + x.held + tot l
def Inv (xs : List Acc) : Prop := xs.length = 10 ∧ (∀ x ∈ xs, 0 ≤ x.free ∧ 0 ≤ x.held) ∧ tot xs ≤ 1073741824
theorem tot_mem : ∀ {xs : List Acc}, (∀ x ∈ xs, 0 ≤ x.free ∧ 0 ≤ x.held) → 0 ≤ tot xs ∧ ∀ x ∈ xs, x.free + x.held ≤ tot xs
  | [], _ => ⟨Int.le_refl _, fun x hx => by cases hx⟩
  | y :: l, h => by
    have hy := h y (List.mem_cons_self ..)
    obtain ⟨h1, h2⟩ := tot_mem (fun x hx => h x (List.mem_cons_of_mem _ hx))
    refine ⟨by simp only [tot]; omega, fun x hx => ?_⟩
    simp only [tot]
    rcases List.mem_cons.1 hx with rfl | hx
    · omega
    · have := h2 x hx; omega
theorem Inv.at_ {xs : List Acc} (h : Inv xs) {x : Acc} (hx : xs[j]? = some x) : 0 ≤ x.free ∧ 0 ≤ x.held ∧ x.free + x.held ≤ 1073741824 ∧ j < 10 := by
  have hm := List.mem_of_getElem? hx
  have h1 := h.2.1 x hm
  have h2 := (tot_mem h.2.1).2 x hm
  have h3 := h.2.2
  have h4 := (List.getElem?_eq_some_iff.1 hx).1
  have h5 := h.1
  refine ⟨h1.1, h1.2, by omega, by omega⟩
theorem tot_set : ∀ {xs : List Acc} {j : Nat} {x : Acc} (y : Acc), xs[j]? = some x → tot (xs.set j y) = tot xs + (y.free + y.held) - (x.free + x.held)
  | [], _, _, _, h => by simp at h
  | z :: l, 0, x, y, h => by
    simp only [List.getElem?_cons_zero, Option.some.injEq] at h
    subst h
    simp only [List.set_cons_zero, tot]; omega
  | z :: l, j + 1, x, y, h => by
    have := tot_set (xs := l) (j := j) y (by simpa using h)
    simp only [List.set_cons_succ, tot]; omega
def isA (a : Int) : Bool := decide (0 ≤ a ∧ a < 10)
def acct (xs : List Acc) (a : Int) : Acc := if 0 ≤ a ∧ a < 10 then (xs[a.toNat]?).getD ⟨0, 0⟩ else ⟨0, 0⟩
theorem acct_in {xs : List Acc} {x : Acc} (hx : xs[j]? = some x) (hj : j < 10) : acct xs (j : Int) = x := by
  unfold acct
  rw [if_pos (by omega), Int.toNat_natCast, hx]; rfl
theorem acct_out {xs : List Acc} (h : ¬ (0 ≤ a ∧ a < 10)) : acct xs a = ⟨0, 0⟩ := by unfold acct; rw [if_neg h]
theorem isA_in (h : j < 10) : isA (j : Int) = true := by unfold isA; exact decide_eq_true (by omega)
theorem isA_out (h : ¬ (0 ≤ a ∧ a < 10)) : isA a = false := by unfold isA; exact decide_eq_false h
theorem isA_some {xs : List Acc} (h : Inv xs) (ha : isA a = true) : ∃ (j : Nat) (x : Acc), a = j ∧ j < 10 ∧ xs[j]? = some x ∧ acct xs a = x := by
  have ha : 0 ≤ a ∧ a < 10 := by simpa [isA] using ha
  obtain ⟨j, rfl⟩ : ∃ j : Nat, a = j := ⟨a.toNat, by omega⟩
  have hl := h.1
  refine ⟨j, xs[j]'(by omega), rfl, by omega, List.getElem?_eq_getElem (by omega), acct_in (List.getElem?_eq_getElem (by omega)) (by omega)⟩
structure LedAt (w : World) (l g : Nat) (A : Option Addr) (cap : Nat) (xs : List Acc) : Prop where
  blk : Blk w l [.slice A xs.length cap, pt g] 106
  sl : SlT w 2 Acc.cells A cap xs
def Led (F : Nat → Prop) (w : World) (l : Nat) (xs : List Acc) (cs : List Ci) : Prop := Inv xs ∧ F l ∧ (∀ q, F q → q < w.heap.size) ∧ ∃ g A cap D, LedAt w l g A cap xs ∧ Grd D w g cs ∧ (∀ q, inA A q → F q ∧ q ≠ l) ∧ (∀ q, D q → F q ∧ q ≠ l) ∧ (∀ q, inA A q → ¬ D q)
theorem Led.lt {xs : List Acc} (h : Led F w l xs cs) : ∀ q, F q → q < w.heap.size := h.2.2.1
theorem Led.at_ {xs : List Acc} (h : Led F w l xs cs) : F l := h.2.1
theorem Led.inv {xs : List Acc} (h : Led F w l xs cs) : Inv xs := h.1
theorem Led.len {xs : List Acc} (h : Led F w l xs cs) : cs.length ≤ 100000 := by
  obtain ⟨_, _, _, _, _, _, _, _, h, _⟩ := h
  exact h.len
theorem Led.keep {S : Nat → Prop} {w' : World} {xs : List Acc} (h : Led F w l xs cs) (k : Keep S w w') (hS : ∀ q, F q → ¬ S q) : Led F w' l xs cs := by
  obtain ⟨h0, h1, h2, g, A, cap, D, h3, h4, h5, h6, h7⟩ := h
  exact ⟨h0, h1, fun q hq => Nat.lt_of_lt_of_le (h2 q hq) k.size, g, A, cap, D, ⟨h3.blk.keep k (hS _ h1), h3.sl.keep k (fun q hq => hS q (h5 q hq).1)⟩, h4.keep k (fun q hq => hS q (h6 q hq).1), h5, h6, h7⟩
theorem Led.quiet {N : Nat} {w' : World} {xs : List Acc} (h : Led F w l xs cs) (k : Keep (lb N w) w w') : Led F w' l xs cs := by
  obtain ⟨h0, h1, h2, g, A, cap, D, h3, h4, h5, h6, h7⟩ := h
  exact ⟨h0, h1, fun q hq => Nat.lt_of_lt_of_le (h2 q hq) k.size, g, A, cap, D, ⟨h3.blk.quiet k, h3.sl.quiet k⟩, h4.quiet k, h5, h6, h7⟩
theorem isAmount_spec (n : Int) (w : World) : Calls Tryz.prog 39 #[nt n] w fun e w' => e = .returned (.bool (decide (0 ≤ n ∧ n ≤ 1073741824))) ∧ w' = w := by
 refine eV ?_
 refine Vr <| On 1 [0] <| Oer <| On 3 [0, 5] ?_
 by_cases hg1 : n ≥ 0
 ·
  exact Dt 5 hg1 <| Oen [2] <| Rr (.bool (decide (n ≤ 1073741824))) ⟨by congr 2; simp only [Bool.decide_and]; by_cases h1 : 0 ≤ n <;> simp [h1] <;> omega, rfl⟩
 exact Df 5 hg1 <| Oen [2] <| Rr (.bool false) ⟨by congr 2; simp only [Bool.decide_and]; by_cases h1 : 0 ≤ n <;> simp [h1] <;> omega, rfl⟩
theorem account_in (F : Nat → Prop) (l : Nat) (xs : List Acc) (cs : List Ci) (j : Nat) (w : World) (h : Led F w l xs cs) (hj : j < 10) : Calls Tryz.prog 30 #[pt l, nt (j : Int)] w fun e w' => e = .returned (.tuple #[.agg (acct xs (j : Int)).cells.toArray, .bool true]) ∧ Keep none_ w w' := by
 obtain ⟨hinv, hFl, hFlt, g, A, cap, D, hat, hG, hAF, hDF, hAD⟩ := h
 have hl := hat.blk
 have hA := hat.sl
 have hllt := hl.lt
 have hAl : ∀ q, inA A q → q ≠ l := fun q hq => (hAF q hq).2
 have hAlt := SlT.lt hA
 have hDl : ∀ q, D q → q ≠ l := fun q hq => (hDF q hq).2
 have hDlt := Grd.lt hG
 have hx10 := hinv.1
 have hK0 := Keep.refl none_ w
 refine enterM Tryz.func30 rfl [pt l, nt (j : Int)] 29 rfl rfl rfl ?_
 refine Vp [(0, pt l),(1, nt (j : Int))] <| Vr <| Alc_ 93 (.agg #[nt 0, nt 0]) [nt 0, nt 0] ?_
 intro b1 w1 e1 hb1 k1 z1
 have hsz2 := Keep.size k1
 replace hl := hl.k0 k1
 replace hA := hA.keep0 k1
 replace hK0 := hK0.tn k1
 have hb1lt := hb1.lt
 refine On 2 [0, 1, 4] <| Oe <| V_seq <| Vr <| Os 7 [(0, pt l),(1, nt (j : Int)),(4, pt b1),(12, .bool (decide ((j : Int) < 0)))] ?_
 by_cases hg3 : (j : Int) < 0
 ·
  exact (by omega : False).elim
 refine Df 12 hg3 <| On 11 [0, 1, 4, 12, 13, 16] <| Lr 0 (.slice A xs.length cap) hl <| Ose [(0, pt l),(1, nt (j : Int)),(4, pt b1),(20, .bool (decide ((j : Int) ≥ (xs.length : Int))))] <| Vi ((j : Int) ≥ (xs.length : Int)) (fun hc4 => ?_) (fun hc4 => ?_)
 ·
  exact (by omega : False).elim
 refine Vsk <| Vr <| On 3 [1, 4, 24] <| Lr 0 (.slice A xs.length cap) hl <| On 5 [4, 25, 26] ?_
 obtain ⟨b5, o5, L5, T5, rfl, hat5⟩ := SlT.opn hA
 have hb5lt := hat5.blk.lt
 have hob6 := hAl b5 ⟨_, rfl, rfl⟩
 have hob7 := hAlt b5 ⟨_, rfl, rfl⟩
 have hne8 : ∀ q, D q → q ≠ b5 := fun q hq hs => (fun q h1 h2 => hAD q h2 h1) q hq ⟨_, rfl, hs⟩
 have own9 := fun q hq => And.intro (hDl q hq) (hne8 q hq)
 refine Oi (b := b5) (o := o5) (len := xs.length) (cap := cap) (j := j) (some 27) 104 (.tmp 25) (.tmp 26) 93 2 16 .i64 ?_
 obtain ⟨x10, hx11⟩ := exAt (xs := xs) (i := j)
 refine La (o5 + j * 2) (Acc.cells x10) 2 hat5.blk (At.elem' hat5 (es_at hx11)) (At.len hat5 (es_at hx11)) <| Sg 0 (Acc.cells x10) hb1 (Acc.len _) (Acc.one _) ?_
 intro w12 hb1_15 hk13 hz14
 replace hb1_15 : Blk w12 b1 (Acc.cells x10) 93 := (by rwa [over_whole (by rw [Acc.len]; rfl)] at hb1_15)
 have hsz16 := Keep.size hk13
 replace hK0 := Keep.fr hK0 hk13
 refine Ose [(4, pt b1),(5, .bool true)] <| V_ret ?_
 exact leave0 (.tuple #[.agg (Acc.cells x10).toArray, .bool true]) (.inl rfl) (res_agg_tmp (m := 2) rfl rfl rfl (by kernel_rfl) hb1_15 rfl) ⟨by rw [acct_in hx11 hj], hK0⟩
theorem account_out (F : Nat → Prop) (l : Nat) (xs : List Acc) (cs : List Ci) (a : Int) (w : World) (h : Led F w l xs cs) (ha : ¬ (0 ≤ a ∧ a < 10)) : Calls Tryz.prog 30 #[pt l, nt a] w fun e w' => e = .returned (.tuple #[.agg (acct xs a).cells.toArray, .bool false]) ∧ Keep none_ w w' := by
 obtain ⟨hinv, hFl, hFlt, g, A, cap, D, hat, hG, hAF, hDF, hAD⟩ := h
 have hl := hat.blk
 have hA := hat.sl
 have hllt := hl.lt
 have hAl : ∀ q, inA A q → q ≠ l := fun q hq => (hAF q hq).2
 have hAlt := SlT.lt hA
 have hDl : ∀ q, D q → q ≠ l := fun q hq => (hDF q hq).2
 have hDlt := Grd.lt hG
 have hx10 := hinv.1
 have hK0 := Keep.refl none_ w
 refine enterM Tryz.func30 rfl [pt l, nt a] 29 rfl rfl rfl ?_
 refine Vp [(0, pt l),(1, nt a)] <| Vr <| Alc_ 93 (.agg #[nt 0, nt 0]) [nt 0, nt 0] ?_
 intro b1 w1 e1 hb1 k1 z1
 have hsz2 := Keep.size k1
 replace hl := hl.k0 k1
 replace hK0 := hK0.tn k1
 have hb1lt := hb1.lt
 refine On 2 [0, 1, 4] <| Oe <| V_seq <| Vr <| On 7 [0, 1, 4, 12] ?_
 by_cases hg3 : a < 0
 ·
  refine Dt 12 hg3 <| Oen [0, 1, 4, 20] <| Vo <| Vr <| On 1 [4, 21] <| OI_set (m := 2) (kd := true) 93 (.tmp 4) (.tmp 21) 0 (.agg #[nt 0, nt 0]) [nt 0, nt 0] none (by kernel_rfl) (by kernel_rfl) (by kernel_rfl) hb1 (by kernel_rfl) (by kernel_rfl) (by kernel_rfl) (Nat.le_of_ble_eq_true (by kernel_rfl)) (by simp [Value.oneCell']) ?_
  intro w4 hb1_7 hk5 hz6
  replace hb1_7 : Blk w4 b1 [nt 0, nt 0] 93 := hb1_7
  have hsz8 := Keep.size hk5
  replace hK0 := Keep.fr hK0 hk5
  refine Ose [(4, pt b1),(5, .bool false)] <| Rt ?_
  exact leave0 (.tuple #[.agg [nt 0, nt 0].toArray, .bool false]) (.inl rfl) (res_agg_tmp (m := 2) rfl rfl rfl (by kernel_rfl) hb1_7 rfl) ⟨by rw [acct_out ha]; rfl, hK0⟩
 refine Df 12 hg3 <| On 11 [0, 1, 4, 12, 13, 16] <| Lr 0 (.slice A xs.length cap) hl <| Ose [(0, pt l),(1, nt a),(4, pt b1),(20, .bool (decide (a ≥ (xs.length : Int))))] <| Vi (a ≥ (xs.length : Int)) (fun hc9 => ?_) (fun hc9 => ?_)
 ·
  refine Vr <| On 1 [4, 21] <| OI_set (m := 2) (kd := true) 93 (.tmp 4) (.tmp 21) 0 (.agg #[nt 0, nt 0]) [nt 0, nt 0] none (by kernel_rfl) (by kernel_rfl) (by kernel_rfl) hb1 (by kernel_rfl) (by kernel_rfl) (by kernel_rfl) (Nat.le_of_ble_eq_true (by kernel_rfl)) (by simp [Value.oneCell']) ?_
  intro w10 hb1_13 hk11 hz12
  replace hb1_13 : Blk w10 b1 [nt 0, nt 0] 93 := hb1_13
  have hsz14 := Keep.size hk11
  replace hK0 := Keep.fr hK0 hk11
  refine Ose [(4, pt b1),(5, .bool false)] <| Rt ?_
  exact leave0 (.tuple #[.agg [nt 0, nt 0].toArray, .bool false]) (.inl rfl) (res_agg_tmp (m := 2) rfl rfl rfl (by kernel_rfl) hb1_13 rfl) ⟨by rw [acct_out ha]; rfl, hK0⟩
 exact (by omega : False).elim
theorem account_spec (F : Nat → Prop) (l : Nat) (xs : List Acc) (cs : List Ci) (a : Int) (w : World) (h : Led F w l xs cs) : Calls Tryz.prog 30 #[pt l, nt a] w fun e w' => e = .returned (.tuple #[.agg (acct xs a).cells.toArray, .bool (isA a)]) ∧ Keep none_ w w' := by
  by_cases ha : 0 ≤ a ∧ a < 10
  · obtain ⟨j, rfl⟩ : ∃ j : Nat, a = j := ⟨a.toNat, by omega⟩
    rw [isA_in (by omega)]
    exact account_in F l xs cs j w h (by omega)
  · rw [isA_out ha]
    exact account_out F l xs cs a w h ha
end Go.Al
namespace Go.Al
open Go Go.RowKit Go.Proofs
theorem acct_bnd {xs : List Acc} (h : Inv xs) (a : Int) : 0 ≤ (acct xs a).free ∧ 0 ≤ (acct xs a).held ∧ (acct xs a).free + (acct xs a).held ≤ 1073741824 := by
  by_cases ha : isA a = true
  · obtain ⟨j, x, rfl, hj, hx, he⟩ := isA_some h ha
    obtain ⟨h1, h2, h3, _⟩ := h.at_ hx
    rw [he]; exact ⟨h1, h2, h3⟩
  · rw [acct_out (by simpa [isA] using ha)]; exact ⟨Int.le_refl _, Int.le_refl _, by decide⟩
def lockM : List (Int × Int) → Int → Int
  | [], m => m
  | p :: l, m => lockM l (if p.2 > m then p.2 else m)
theorem lockM_app : ∀ (l : List (Int × Int)) (p : Int × Int) (m : Int), lockM (l ++ [p]) m = if p.2 > lockM l m then p.2 else lockM l m
  | [], p, m => rfl
  | q :: l, p, m => by simp only [List.cons_append, lockM]; exact lockM_app l p _
def lockedL (cs : List Ci) (a : Int) : Int := lockM (rowL a cs) 0
def spendsE (xs : List Acc) (cs : List Ci) (a n : Int) : Int :=
  if isA a = false ∨ ¬ (0 ≤ n ∧ n ≤ 1073741824) then 1 else if n > (acct xs a).free then 6 else if n > 0 ∧ (acct xs a).free - n < lockedL cs a then 7 else 0
theorem free_spec (F : Nat → Prop) (l : Nat) (xs : List Acc) (cs : List Ci) (a : Int) (w : World) (h : Led F w l xs cs) : Calls Tryz.prog 13 #[pt l, nt a] w fun e w' => e = .returned (nt (acct xs a).free) ∧ Keep none_ w w' := by
 have hFlt := Led.lt h
 have hllt := hFlt _ (Led.at_ h)
 have hinv := Led.inv h
 have hK0 := Keep.refl none_ w
 refine eV ?_
 refine Vr <| On 1 [0, 1] <| Oer <| On 2 [8, 9] <| Kk (account_spec F l xs cs a _ h) fun w3 hk4 _ => ?_
 replace hK0 := hK0.tn hk4
 refine On 6 [11, 12] <| Alc_ 93 (.agg #[nt 0, nt 0]) [nt 0, nt 0] ?_
 intro b6 w6 e6 hb6 k6 z6
 have hsz7 := Keep.size k6
 replace hK0 := hK0.tn k6
 have hb6lt := hb6.lt
 refine Sg 0 (Acc.cells (acct xs a)) hb6 (Acc.len _) (Acc.one _) ?_
 intro w8 hb6_11 hk9 hz10
 replace hb6_11 : Blk w8 b6 (Acc.cells (acct xs a)) 93 := (by rwa [over_whole (by rw [Acc.len]; rfl)] at hb6_11)
 have hsz12 := Keep.size hk9
 replace hK0 := Keep.fr hK0 hk9
 exact On 9 [5] <| Oer <| On 1 [13] <| Lr 0 (nt ((acct xs a).free)) hb6_11 <| Oen [4] <| Rr (nt ((acct xs a).free)) ⟨rfl, hK0⟩
theorem held_spec (F : Nat → Prop) (l : Nat) (xs : List Acc) (cs : List Ci) (a : Int) (w : World) (h : Led F w l xs cs) : Calls Tryz.prog 36 #[pt l, nt a] w fun e w' => e = .returned (nt (acct xs a).held) ∧ Keep none_ w w' := by
 have hFlt := Led.lt h
 have hllt := hFlt _ (Led.at_ h)
 have hinv := Led.inv h
 have hK0 := Keep.refl none_ w
 refine eV ?_
 refine Vr <| On 1 [0, 1] <| Oer <| On 2 [8, 9] <| Kk (account_spec F l xs cs a _ h) fun w3 hk4 _ => ?_
 replace hK0 := hK0.tn hk4
 refine On 6 [11, 12] <| Alc_ 93 (.agg #[nt 0, nt 0]) [nt 0, nt 0] ?_
 intro b6 w6 e6 hb6 k6 z6
 have hsz7 := Keep.size k6
 replace hK0 := hK0.tn k6
 have hb6lt := hb6.lt
 refine Sg 0 (Acc.cells (acct xs a)) hb6 (Acc.len _) (Acc.one _) ?_
 intro w8 hb6_11 hk9 hz10
 replace hb6_11 : Blk w8 b6 (Acc.cells (acct xs a)) 93 := (by rwa [over_whole (by rw [Acc.len]; rfl)] at hb6_11)
 have hsz12 := Keep.size hk9
 replace hK0 := Keep.fr hK0 hk9
 exact On 9 [5] <| Oer <| On 1 [13] <| Lr 1 (nt ((acct xs a).held)) hb6_11 <| Oen [4] <| Rr (nt ((acct xs a).held)) ⟨rfl, hK0⟩
theorem tot_step2 {xs : List Acc} {i : Nat} {x : Acc} (h : ∀ x ∈ xs, 0 ≤ x.free ∧ 0 ≤ x.held) (ht : tot xs ≤ 1125899906842624) (hx : xs[i]? = some x) : tot (xs.take (i + 1)) = tot (xs.take i) + (x.free + x.held) ∧ 0 ≤ tot (xs.take i) ∧ tot (xs.take i) + (x.free + x.held) ≤ 1125899906842624 ∧ 0 ≤ x.free ∧ 0 ≤ x.held := by
  obtain ⟨h1, rfl⟩ := List.getElem?_eq_some_iff.1 hx
  have happ : ∀ (a b : List Acc), tot (a ++ b) = tot a + tot b := by
    intro a b
    induction a with
    | nil => simp [tot]
    | cons y l ih => simp only [List.cons_append, tot, ih]; omega
  have e1 : tot (xs.take (i + 1)) = tot (xs.take i) + (xs[i].free + xs[i].held) := by
    rw [List.take_succ_eq_append_getElem h1, happ]; simp only [tot]; omega
  have e2 : tot xs = tot (xs.take (i + 1)) + tot (xs.drop (i + 1)) := by rw [← happ, List.take_append_drop]
  have h2 := (tot_mem (xs := xs.take i) (fun y hy => h y (List.mem_of_mem_take hy))).1
  have h3 := (tot_mem (xs := xs.drop (i + 1)) (fun y hy => h y (List.mem_of_mem_drop hy))).1
  have h4 := h xs[i] (List.getElem_mem h1)
  exact ⟨e1, h2, by omega, h4.1, h4.2⟩
theorem issued_at (l cap : Nat) (A : Option Addr) (gv : Value) (xs : List Acc) (w : World) (hl : Blk w l [.slice A xs.length cap, gv] 106) (hA : SlT w 2 Acc.cells A cap xs) (hnn : ∀ x ∈ xs, 0 ≤ x.free ∧ 0 ≤ x.held) (htt : tot xs ≤ 1125899906842624) (hx10 : xs.length ≤ 1000) : Calls Tryz.prog 40 #[pt l] w fun e w' => e = .returned (nt (tot xs)) ∧ Keep none_ w w' := by
 have hllt := hl.lt
 have hAlt := SlT.lt hA
 have hK0 := Keep.refl none_ w
 refine eV ?_
 refine Vr <| On 1 [0] <| Oer <| On 1 [0, 3] <| Oe <| V_seq <| Vn [0, 3, 7] <| Vo <| Vr <| On 3 [3, 10] <| Lr 0 (.slice A xs.length cap) hl <| Oen [3, 11, 12, 13] <| V_block <| Vp [(3, nt 0),(11, .slice A xs.length cap),(12, nt (xs.length : Int)),(13, nt 0)] <| V_loop (fun k wI e => ∃ i : Nat, ∃ s : Int, (k + i = xs.length) ∧ (s = tot (xs.take i)) ∧ Keep none_ w wI ∧ e = [(3, nt s),(11, .slice A xs.length cap),(12, nt (xs.length : Int)),(13, nt (i : Int))]) xs.length ⟨0, 0, rfl, rfl, Keep.refl _ _, rfl⟩ ?_
 rintro k2 w1 _ ⟨i, s, hki, hs, hk3, rfl⟩
 have hsz4 := Keep.size hk3
 replace hA := hA.keep0 hk3
 replace hK0 := hK0.tn hk3
 have hzhk3 := Keep.size hk3
 refine Vn [3, 11, 12, 13, 14] <| V_seq <| Vi ((i : Int) < (xs.length : Int)) (fun hc5 => ?_) (fun hc5 => ?_)
 ·
  refine Vsk <| V_seq <| V_block <| Vr ?_
  obtain ⟨b6, o6, L6, T6, rfl, hat6⟩ := SlT.opn hA
  have hb6lt := hat6.blk.lt
  have hob7 := hAlt b6 ⟨_, rfl, rfl⟩
  refine Oi (b := b6) (o := o6) (len := xs.length) (cap := cap) (j := i) (some 15) 104 (.tmp 11) (.tmp 13) 93 2 16 .i64 ?_
  obtain ⟨x8, hx9⟩ := exAt (xs := xs) (i := i)
  obtain ⟨hst1, hst2, hst3, hbx1, hbx2⟩ := tot_step2 hnn htt hx9
  refine La (o6 + i * 2) (Acc.cells x8) 2 hat6.blk (At.elem' hat6 (es_at hx9)) (At.len hat6 (es_at hx9)) <| Alc_ 93 (.agg #[nt 0, nt 0]) [nt 0, nt 0] ?_
  intro b10 w10 e10 hb10 k10 z10
  have hsz11 := Keep.size k10
  replace hk3 := hk3.tn k10
  have hb10lt := hb10.lt
  refine Sg 0 (Acc.cells x8) hb10 (Acc.len _) (Acc.one _) ?_
  intro w12 hb10_15 hk13 hz14
  replace hb10_15 : Blk w12 b10 (Acc.cells x8) 93 := (by rwa [over_whole (by rw [Acc.len]; rfl)] at hb10_15)
  have hsz16 := Keep.size hk13
  replace hk3 := Keep.fr hk3 hk13
  refine Oe <| V_region <| On 2 [5, 11, 12, 13, 17, 18] <| Lr 0 (nt x8.free) hb10_15 <| On 4 [11, 12, 13, 17, 19, 20] <| Lr 1 (nt x8.held) hb10_15 ?_
  have hw17 : i64.wrap (x8.free + x8.held) = x8.free + x8.held := wrp
  refine On 6 [11, 12, 13, 17, 22] <| Oq (u := nt (i64.wrap (x8.free + x8.held))) (v := nt (x8.free + x8.held)) 22 (by rw [hw17]) ?_
  have hw18 : i64.wrap (s + (x8.free + x8.held)) = s + (x8.free + x8.held) := wrp
  refine On 7 [11, 12, 13, 23] <| Oq (u := nt (i64.wrap (s + (x8.free + x8.held)))) (v := nt (s + (x8.free + x8.held))) 23 (by rw [hw18]) <| On 8 [3, 11, 12, 13] <| OI_end rfl <| X_block <| X_then <| V_region ?_
  have hw19 : i64.wrap ((i : Int) + 1) = ((i + 1 : Nat) : Int) := wrp
  refine On 1 [3, 11, 12, 24] <| Oq (u := nt (i64.wrap ((i : Int) + 1))) (v := nt ((i + 1 : Nat) : Int)) 24 (by rw [hw19]) <| Os 2 [(3, nt (s + (x8.free + x8.held))),(11, sl_ b6 o6 xs.length cap),(12, nt (xs.length : Int)),(13, nt ((i + 1 : Nat) : Int))] <| OI_end rfl ?_
  exact V_again (k2 - 1) (by omega) [(3, nt (s + (x8.free + x8.held))),(11, sl_ b6 o6 xs.length cap),(12, nt (xs.length : Int)),(13, nt ((i + 1 : Nat) : Int))] rfl ⟨i + 1, s + (x8.free + x8.held), by omega, by rw [hst1, hs], hk3, rfl⟩
 refine V_exit <| X_exit_then <| X_exit_then <| X_exit_here <| X_then <| Vs [(2, nt s)] <| V_ret ?_
 have he : i = xs.length := by omega
 rw [he, List.take_length] at hs
 exact X_return _ rfl ⟨by rw [hs], hK0⟩
end Go.Al
namespace Go.Al
open Go Go.RowKit Go.Proofs
theorem locks_spec (l g : Nat) (sv : Value) (a : Int) (w : World) (hl : Blk w l [sv, pt g] 106) : Calls Tryz.prog 111 #[pt l, nt a] w fun e w' => ∃ bg bs bn, e = .returned (.func (.func 116) #[] #[pt bg, pt bs, pt bn]) ∧ Blk w' bg [pt g] 102 ∧ Blk w' bs [nt 0] 3 ∧ Blk w' bn [nt a] 3 ∧ Keep none_ w w' ∧ w.heap.size ≤ bg ∧ w.heap.size ≤ bs ∧ w.heap.size ≤ bn := by
 have hllt := hl.lt
 have hK0 := Keep.refl none_ w
 refine eV ?_
 refine Vr <| On 1 [0, 1] <| Oe <| V_seq <| Vn [0, 1, 6] <| Vf <| Vsk <| Vr <| On 3 [1, 11] <| Lr 1 (pt g) hl <| On 5 [12, 13] <| Ok (kL 113 #[(.tmp 12),(.tmp 13)] #[102, 3]) 113 #[pt g, nt a] (some 14) (row_spec _ rfl a _) ?_
 rintro _ w1 ⟨bg3, bs4, bn5, rfl, hbg3, hbs4, hbn5, hk2, hgebg3, hgebs4, hgebn5⟩
 refine ⟨_, rfl, ?_⟩
 have hsz6 := Keep.size hk2
 replace hK0 := hK0.tn hk2
 have hbg3lt := hbg3.lt
 have hbs4lt := hbs4.lt
 have hbn5lt := hbn5.lt
 refine Ose [(4, .func (.func 116) #[] #[pt bg3, pt bs4, pt bn5])] <| V_ret ?_
 exact X_return _ rfl ⟨bg3, bs4, bn5, rfl, hbg3, hbs4, hbn5, hK0, by omega, by omega, by omega⟩
theorem locked_spec (F : Nat → Prop) (l : Nat) (xs : List Acc) (cs : List Ci) (a : Int) (w : World) (h : Led F w l xs cs) : Calls Tryz.prog 103 #[pt l, nt a] w fun e w' => e = .returned (nt (lockedL cs a)) ∧ Keep none_ w w' := by
 obtain ⟨hinv, hFl, hFlt, g, A, cap, D, hat, hG, hAF, hDF, hAD⟩ := h
 have hl := hat.blk
 have hA := hat.sl
 have hllt := hl.lt
 have hAl : ∀ q, inA A q → q ≠ l := fun q hq => (hAF q hq).2
 have hAlt := SlT.lt hA
 have hDl : ∀ q, D q → q ≠ l := fun q hq => (hDF q hq).2
 have hDlt := Grd.lt hG
 have hx10 := hinv.1
 have hcl := hG.len
 have hK0 := Keep.refl none_ w
 refine enterM Tryz.func103 rfl [pt l, nt a] 17 rfl rfl rfl ?_
 refine Vp [(0, pt l),(1, nt a)] <| Vr <| On 1 [0, 1, 4] <| Oer <| Alc_ 3 (nt 0) [nt 0] ?_
 intro b1 w1 e1 hb1 k1 z1
 have hsz2 := Keep.size k1
 replace hl := hl.k0 k1
 replace hG := Grd.keep hG k1 nk
 replace hK0 := hK0.tn k1
 have hb1lt := hb1.lt
 refine St_ 0 (nt 0) hb1 ?_
 intro w3 hb1_6 hk4 hz5
 replace hb1_6 : Blk w3 b1 [nt 0] 3 := hb1_6
 have hsz7 := Keep.size hk4
 replace hl := hl.k1 hk4
 replace hG := Grd.keep hG hk4 (fun q hq hs => by have hs : q = b1 := hs; have g0 := hDl q hq; have g1 := hDlt q hq; omega)
 replace hK0 := Keep.fr hK0 hk4
 refine Oe <| V_seq <| Vr <| On 2 [4, 5, 8, 9] <| Ok (kL 111 #[(.tmp 8),(.tmp 9)] #[31, 3]) 111 #[pt l, nt a] (some 10) (locks_spec l g _ a _ hl) ?_
 rintro _ w8 ⟨bg10, bs11, bn12, rfl, hbg10, hbs11, hbn12, hk9, hgebg10, hgebs11, hgebn12⟩
 refine ⟨_, rfl, ?_⟩
 have hsz13 := Keep.size hk9
 replace hl := hl.k0 hk9
 replace hb1_6 := hb1_6.k0 hk9
 replace hG := Grd.keep hG hk9 nk
 replace hK0 := hK0.tn hk9
 have hbg10lt := hbg10.lt
 have hbs11lt := hbs11.lt
 have hbn12lt := hbn12.lt
 refine Oe <| V_block ?_
 obtain ⟨_, _, _, _, A2, cap2, hat2, hAD2⟩ := hG
 have hA2 := hat2.sl
 have owA2 : ∀ q, inA A2 q → q < w.heap.size := fun q hq => hDlt q (hAD2 q hq)
 refine Vp [(5, pt b1),(10, .func (.func 116) #[] #[pt bg10, pt bs11, pt bn12])] ?_
 have hN0 : w.heap.size ≤ w8.heap.size := Keep.size hK0
 refine V_range2 (gf := 116) (caps := #[pt bg10, pt bs11, pt bn12]) (m := (rowL a cs).length) (by kernel_rfl) (by kernel_rfl) (by kernel_rfl) (along1_iter0 bg10 bs11 bn12 g cap2 A2 cs a (by omega)) (⟨hbg10, hat2, ⟨hbs11, hbn12, hA2⟩⟩) (fun W W' h k => ⟨h.1.quiet k, h.2.1.quiet k, h.2.2.quiet k⟩) (enc2_size _) (fun M1 k W => (Blk W bs11 [nt 0] 3) ∧ (Blk W bn12 [nt a] 3) ∧ (SlT W 3 Ci.cells A2 cap2 cs) ∧ (Keep none_ w W) ∧ (Blk W b1 [nt (lockM ((rowL a cs).take k) 0)] 3)) (fun M1 c k W => False) (fun M1 k W W' h hk => by obtain ⟨jbs11, jbn12, jA2, jhK0, jb1⟩ := h; exact ⟨jbs11.quiet hk, jbn12.quiet hk, jA2.quiet hk, jhK0.quiet hk (by omega), jb1.quiet hk⟩) (fun _ _ _ _ _ h _ => h.elim) (fun M1 hM1 => ⟨hbs11, hbn12, hA2, hK0, hb1_6⟩) (fun M1 k W h => by obtain ⟨jbs11, jbn12, jA2, jhK0, jb1⟩ := h; exact ⟨jbs11, jbn12, jA2⟩) ?_ ?_ (fun _ _ _ _ _ _ _ _ h _ => h.elim)
 ·
  intro lp D M1 k W hD hl hM hMW hkm ⟨jbs11, jbn12, jA2, jhK0, jb1⟩ ⟨rr, hrr⟩ hDD
  have hzjhK0 := Keep.size jhK0
  have hb1lt := jb1.lt
  have hbs11lt := jbs11.lt
  have hbn12lt := jbn12.lt
  have ltjA2 := SlT.lt jA2
  obtain ⟨x, hx⟩ : ∃ x, (rowL a cs)[k]? = some x := ⟨_, List.getElem?_eq_getElem hkm⟩
  rw [enc2_at hx]
  have hstp : lockM ((rowL a cs).take (k + 1)) 0 = if x.2 > lockM ((rowL a cs).take k) 0 then x.2 else lockM ((rowL a cs).take k) 0 := by obtain ⟨h1, h2⟩ := List.getElem?_eq_some_iff.1 hx; rw [List.take_succ_eq_append_getElem h1, h2, lockM_app]
  refine Vp [(5, pt b1),(12, nt x.2)] ?_
  have hfen : Keep (fen w8.heap.size M1) W W := Keep.refl _ _
  have hzhfen := Keep.size hfen
  refine V_region <| Os 1 [(5, pt b1),(7, nt x.2)] <| OI_end rfl <| X_begin2 hfen ?_
  intro W2 hk2 ⟨r2, hr2⟩ hD2
  have hsz14 := Keep.size hk2
  replace jb1 := Blk.quiet jb1 hk2
  replace jbs11 := Blk.quiet jbs11 hk2
  replace jbn12 := Blk.quiet jbn12 hk2
  replace jA2 := jA2.quiet hk2
  replace jhK0 := Keep.quiet jhK0 hk2 (by omega)
  have hzhk2 := Keep.size hk2
  have hfenb : Keep (fen w8.heap.size M1) W2 W2 := Keep.refl _ _
  have hzhfenb := Keep.size hfenb
  refine V_block <| V_region <| Lr 0 (nt (lockM ((rowL a cs).take k) 0)) jb1 <| Os 3 [(5, pt b1),(15, nt (if x.2 > lockM ((rowL a cs).take k) 0 then x.2 else lockM ((rowL a cs).take k) 0))] <| St_ 0 (nt (if x.2 > lockM ((rowL a cs).take k) 0 then x.2 else lockM ((rowL a cs).take k) 0)) jb1 ?_
  intro w15 hb1_18 hk16 hz17
  replace hb1_18 : Blk w15 b1 [nt (if x.2 > lockM ((rowL a cs).take k) 0 then x.2 else lockM ((rowL a cs).take k) 0)] 3 := hb1_18
  have hsz19 := Keep.size hk16
  replace jbs11 := jbs11.k1 hk16
  replace jbn12 := jbn12.k1 hk16
  replace jA2 := jA2.keep hk16 (fun q hq hs => by have hs : q = b1 := hs; have g0 := owA2 q hq; have g1 := ltjA2 q hq; omega)
  replace jhK0 := Keep.fr jhK0 hk16
  replace hfenb := Keep.fresh hfenb hk16 (by intro i hi hs; have hs2 : i = b1 := hs; show _ ∨ _; omega)
  refine OI_end rfl <| X_block ?_
  exact fun a _ => ⟨hfenb, jbs11, jbn12, jA2, jhK0, by rw [hstp]; exact hb1_18⟩
 ·
  intro D M1 W hD hM ⟨jbs11, jbn12, jA2, jhK0, jb1⟩ hDD
  have hzjhK0 := Keep.size jhK0
  have hb1lt := jb1.lt
  have hbs11lt := jbs11.lt
  have hbn12lt := jbn12.lt
  have ltjA2 := SlT.lt jA2
  rw [List.take_length] at jb1
  refine X_block <| X_then <| Vr <| Lr 0 (nt (lockM (rowL a cs) 0)) jb1 <| Ose [(4, nt (lockM (rowL a cs) 0))] <| V_ret ?_
  exact leave1 (nt (lockM (rowL a cs) 0)) (.inl rfl) hDD (fun w' hk => ⟨res_tmps rfl, ⟨rfl, Keep.quiet jhK0 hk (by omega)⟩⟩)
theorem spends_spec (F : Nat → Prop) (l : Nat) (xs : List Acc) (cs : List Ci) (a n : Int) (w : World) (h : Led F w l xs cs) : Calls Tryz.prog 77 #[pt l, nt a, nt n] w fun e w' => e = .returned (nt (spendsE xs cs a n)) ∧ Keep none_ w w' := by
 have hFlt := Led.lt h
 have hllt := hFlt _ (Led.at_ h)
 have hinv := Led.inv h
 obtain ⟨hab1, hab2, hab3⟩ := acct_bnd hinv a
 have hK0 := Keep.refl none_ w
 refine eV ?_
 refine Vr <| On 1 [0, 1, 2] <| Oer <| On 2 [0, 1, 2, 10, 11] <| Kk (account_spec F l xs cs a _ h) fun w5 hk6 _ => ?_
 replace h := h.keep hk6 nk
 replace hK0 := hK0.tn hk6
 refine On 6 [0, 1, 2, 13, 14] <| Alc_ 93 (.agg #[nt 0, nt 0]) [nt 0, nt 0] ?_
 intro b8 w8 e8 hb8 k8 z8
 have hsz9 := Keep.size k8
 replace h := h.keep k8 nk
 replace hK0 := hK0.tn k8
 have hb8lt := hb8.lt
 refine Sg 0 (Acc.cells (acct xs a)) hb8 (Acc.len _) (Acc.one _) ?_
 intro w10 hb8_13 hk11 hz12
 replace hb8_13 : Blk w10 b8 (Acc.cells (acct xs a)) 93 := (by rwa [over_whole (by rw [Acc.len]; rfl)] at hb8_13)
 have hsz14 := Keep.size hk11
 replace h := h.keep hk11 (fun q hq hs => by have hs : q = b8 := hs; have g1 := hFlt q hq; omega)
 replace hK0 := Keep.fr hK0 hk11
 refine On 9 [0, 1, 2, 7, 8] <| Oe <| V_seq <| V_block <| Vr <| Os 3 [(0, pt l),(1, nt a),(2, nt n),(7, pt b8),(18, .bool (!(isA a)))] ?_
 cases hg15 : (!(isA a))
 ·
  refine OI_eq [(0, pt l),(1, nt a),(2, nt n),(7, pt b8),(18, .bool false)] (by first | rfl | rw [hg15]) <| On 4 [0, 1, 2, 7, 18, 19] <| Kq (isAmount_spec n _) <| Oen [0, 1, 2, 7, 15] <| V_not (0 ≤ n ∧ n ≤ 1073741824) (by kernel_rfl) (fun hc21 => ?_) (fun hc21 => ?_)
  ·
   exact Vn [6] <| V_ret <| X_ret_block <| X_ret_then <| Xr (nt 1) ⟨by unfold spendsE; simp_all <;> omega, hK0⟩
  refine Vr <| On 2 [0, 1, 2, 7, 24, 25] <| Lr 0 (nt ((acct xs a).free)) hb8_13 <| Oen [0, 1, 2, 7, 23] <| Vi (n > (acct xs a).free) (fun hc22 => ?_) (fun hc22 => ?_)
  ·
   exact Vn [6] <| V_ret <| X_ret_block <| X_ret_then <| Xr (nt 6) ⟨by unfold spendsE; simp_all <;> omega, hK0⟩
  refine V_seq <| Vd1 (acts [9]) none_ [0, 1, 2, 7, 8, 9, 3, 4, 5, 6, 10, 11, 12] fun w24 hk23 he25 K28 _ => ?_
  replace hb8_13 := hb8_13.k0 hk23
  replace h := h.keep hk23 nk
  replace hK0 := hK0.tn hk23
  have qhb8_13 := hb8_13
  refine Gn [7, 8, 9, 3, 4, 5, 6, 10, 11, 12] [0, 1, 2, 7, 31] ?_
  by_cases hg29 : n > 0
  ·
   refine Et 31 hg29 <| Gn [9, 3, 4, 5, 6, 10, 11, 12] [2, 7, 31, 36, 37] <| Hg (locked_spec F l xs cs a _ h) ?_
   rintro _ w30 ⟨rfl, hk31⟩
   have K32 := K28.tr (Keep.ofNone hk31)
   refine ⟨_, rfl, K32, ?_⟩
   have hzK32 := Keep.size K32
   have hsz33 := Keep.size hk31
   replace hK0 := hK0.tn hk31
   refine Gn [4, 5, 6, 10, 11, 12] [2, 31, 32, 38] <| Mr 0 (nt ((acct xs a).free)) qhb8_13 ?_
   have hw34 : i64.wrap (((acct xs a).free) - n) = ((acct xs a).free) - n := wrp
   refine Gn [10, 11, 12] [31, 35, 38] <| Gq_ (u := nt (i64.wrap (((acct xs a).free) - n))) (v := nt (((acct xs a).free) - n)) 35 (by rw [hw34]) <| Gn [] [28] <| GI_end <| X_then <| Vi (((acct xs a).free) - n < lockedL cs a) (fun hc35 => ?_) (fun hc35 => ?_)
   ·
    exact Vn [6] <| V_ret <| X_ret_block <| X_ret_then <| Xr (nt 7) ⟨by unfold spendsE; simp_all <;> omega, hK0⟩
   exact V_skip <| X_block <| X_then <| Vn [6] <| Rr (nt 0) ⟨by unfold spendsE; simp_all <;> omega, hK0⟩
  exact Ef 31 hg29 <| Gn [] [28] <| GI_end <| X_then <| Vf <| V_skip <| X_block <| X_then <| Vn [6] <| Rr (nt 0) ⟨by unfold spendsE; simp_all <;> omega, hK0⟩
 exact OI_eq [(0, pt l),(1, nt a),(2, nt n),(7, pt b8),(18, .bool true)] (by first | rfl | rw [hg15]) <| Oen [0, 1, 2, 7, 15] <| Vo <| Vn [6] <| V_ret <| X_ret_block <| X_ret_then <| Xr (nt 1) ⟨by unfold spendsE; simp_all <;> omega, hK0⟩
end Go.Al
namespace Go.Al
open Go Go.RowKit Go.Proofs
variable {a : Int} {j : Nat} {xs : List Acc}
def setA (xs : List Acc) (a : Int) (y : Acc) : List Acc := xs.set a.toNat y
def subF (xs : List Acc) (a n : Int) : List Acc := setA xs a (Acc.mk ((acct xs a).free - n) (acct xs a).held)
def addF (xs : List Acc) (a n : Int) : List Acc := setA xs a (Acc.mk ((acct xs a).free + n) (acct xs a).held)
def subH (xs : List Acc) (a n : Int) : List Acc := setA xs a (Acc.mk (acct xs a).free ((acct xs a).held - n))
def addH (xs : List Acc) (a n : Int) : List Acc := setA xs a (Acc.mk (acct xs a).free ((acct xs a).held + n))
theorem setA_at (ha : a = j) (y : Acc) : setA xs a y = xs.set j y := by subst ha; rfl
theorem acct_at {x : Acc} (ha : a = j) (hx : xs[j]? = some x) (hj : j < 10) : acct xs a = x := by subst ha; exact acct_in hx hj
theorem Inv.set (h : Inv xs) {x : Acc} (hx : xs[j]? = some x) (y : Acc) (h1 : 0 ≤ y.free) (h2 : 0 ≤ y.held) (h3 : tot xs + (y.free + y.held) - (x.free + x.held) ≤ 1073741824) : Inv (xs.set j y) := by
  refine ⟨by rw [List.length_set]; exact h.1, fun z hz => ?_, by rw [tot_set y hx]; exact h3⟩
  rcases List.mem_or_eq_of_mem_set hz with hz | rfl
  · exact h.2.1 z hz
  · exact ⟨h1, h2⟩
theorem spends_ok {cs : List Ci} {n : Int} (_hi : Inv xs) (h : spendsE xs cs a n = 0) : isA a = true ∧ 0 ≤ n ∧ n ≤ 1073741824 ∧ n ≤ (acct xs a).free ∧ (n > 0 → lockedL cs a ≤ (acct xs a).free - n) := by
  unfold spendsE at h
  split at h
  · cases h
  · rename_i h1
    split at h
    · cases h
    · rename_i h2
      split at h
      · cases h
      · rename_i h3
        simp only [not_or, Bool.not_eq_false, Classical.not_not] at h1
        refine ⟨h1.1, h1.2.1, h1.2.2, by omega, fun h4 => ?_⟩
        have : ¬ ((acct xs a).free - n < lockedL cs a) := fun h5 => h3 ⟨h4, h5⟩
        omega
def transE (xs : List Acc) (cs : List Ci) (a b n : Int) : Int := if isA b = false then 1 else if spendsE xs cs a n = 7 ∧ a = b then 0 else spendsE xs cs a n
def transX (xs : List Acc) (cs : List Ci) (a b n : Int) : List Acc := if isA b = true ∧ spendsE xs cs a n = 0 then addF (subF xs a n) b n else xs
def resX (xs : List Acc) (cs : List Ci) (a n : Int) : List Acc := if spendsE xs cs a n = 0 then addH (subF xs a n) a n else xs
def imin (a b : Int) : Int := if b < a then b else a
def imax (a b : Int) : Int := if b > a then b else a
def tkN (xs : List Acc) (a n : Int) : Int := if isA a = true then imax (imin n (acct xs a).held) 0 else 0
def tkX (xs : List Acc) (a n : Int) : List Acc := if isA a = true then subH xs a (tkN xs a n) else xs
def slX (xs : List Acc) (a n : Int) : List Acc := if tkN xs a n > 0 then addF (tkX xs a n) 0 (tkN xs a n) else tkX xs a n
theorem tk_bnd {h n : Int} (hh : 0 ≤ h) : 0 ≤ imax (imin n h) 0 ∧ imax (imin n h) 0 ≤ h := by unfold imax imin; split <;> split <;> omega
theorem tkN_bnd (h : Inv xs) (a n : Int) : 0 ≤ tkN xs a n ∧ tkN xs a n ≤ (acct xs a).held := by
  have hb := acct_bnd h a
  unfold tkN
  split
  · exact tk_bnd hb.2.1
  · omega
theorem transfer_spec (F : Nat → Prop) (l : Nat) (xs : List Acc) (cs : List Ci) (a b n : Int) (w : World) (h : Led F w l xs cs) : Calls Tryz.prog 86 #[pt l, nt a, nt b, nt n] w fun e w' => e = .returned (nt (transE xs cs a b n)) ∧ (∃ F', Led F' w' l (transX xs cs a b n) (cs) ∧ (∀ q, F' q → F q ∨ w.heap.size ≤ q)) ∧ Keep F w w' := by
 have hFlt := Led.lt h
 have hllt := hFlt _ (Led.at_ h)
 have hinv := Led.inv h
 have hK0 := Keep.refl F w
 refine eV ?_
 refine Vr <| On 1 [0, 1, 2, 3] <| Oer <| On 3 [0, 1, 2, 3, 12, 13, 14] <| Kk (spends_spec F l xs cs a n _ h) fun w1 hk2 _ => ?_
 replace h := h.keep hk2 nk
 replace hK0 := hK0.tn hk2
 refine On 5 [0, 1, 2, 3, 9] <| Oe <| V_seq <| Vr <| On 2 [0, 1, 2, 3, 9, 17, 18] <| Kk (account_spec F l xs cs b _ h) fun w10 hk11 _ => ?_
 replace h := h.keep hk11 nk
 replace hK0 := hK0.tn hk11
 refine On 6 [0, 1, 2, 3, 9, 20, 21] <| Alc_ 93 (.agg #[nt 0, nt 0]) [nt 0, nt 0] ?_
 intro b13 w13 e13 hb13 k13 z13
 have hsz14 := Keep.size k13
 replace h := h.keep k13 nk
 replace hK0 := hK0.tn k13
 have hb13lt := hb13.lt
 refine Sg 0 (Acc.cells (acct xs b)) hb13 (Acc.len _) (Acc.one _) ?_
 intro w15 hb13_18 hk16 hz17
 replace hb13_18 : Blk w15 b13 (Acc.cells (acct xs b)) 93 := (by rwa [over_whole (by rw [Acc.len]; rfl)] at hb13_18)
 have hsz19 := Keep.size hk16
 replace h := h.keep hk16 (fun q hq hs => by have hs : q = b13 := hs; have g1 := hFlt q hq; omega)
 replace hK0 := Keep.fresh hK0 hk16 (by intro i hi hs; have hs2 : i = b13 := hs; exfalso; omega)
 refine On 9 [0, 1, 2, 3, 9, 11] <| Oer <| Oen [0, 1, 2, 3, 9, 23] <| Vb (!(isA b)) (fun hc20 => ?_) (fun hc20 => ?_)
 ·
  exact V_region <| On 1 [0, 1, 2, 3, 9] <| Oe <| V_seq <| Vn [0, 1, 2, 3, 9, 30] <| Vf <| Vsk <| V_seq <| Vn [0, 1, 2, 3, 9, 32] <| Vf <| Vsk <| Vn [8] <| Rr (nt 1) ⟨by unfold transE; simp_all, ⟨F, by rw [show transX xs cs a b n = xs from by unfold transX; simp_all]; exact h, fun q h => .inl h⟩, hK0⟩
 refine Vsk <| V_seq <| Vr <| On 3 [0, 1, 2, 3, 9, 26] ?_
 by_cases hg21 : spendsE xs cs a n = 7
 ·
  refine Dt 26 hg21 <| Oen [0, 1, 2, 3, 9, 30] <| Vi (a = b) (fun hc22 => ?_) (fun hc22 => ?_)
  ·
   exact Vn [8] <| Rt <| Xr (nt 0) ⟨by unfold transE; simp_all, ⟨F, by rw [show transX xs cs a b n = xs from by unfold transX; simp_all]; exact h, fun q h => .inl h⟩, hK0⟩
  refine Vsk <| V_seq <| Vs [(0, pt l),(1, nt a),(2, nt b),(3, nt n),(9, nt (spendsE xs cs a n)),(32, .bool (decide (spendsE xs cs a n = 0)))] <| Vi (spendsE xs cs a n = 0) (fun hc23 => ?_) (fun hc23 => ?_)
  ·
   exact (by omega : False).elim
  exact Vsk <| Vn [8] <| Rr (nt (spendsE xs cs a n)) ⟨by unfold transE; simp_all, ⟨F, by rw [show transX xs cs a b n = xs from by unfold transX; simp_all]; exact h, fun q h => .inl h⟩, hK0⟩
 refine Df 26 hg21 <| Oen [0, 1, 2, 3, 9, 30] <| Vf <| Vsk <| V_seq <| Vn [0, 1, 2, 3, 9, 32] <| Vi (spendsE xs cs a n = 0) (fun hc24 => ?_) (fun hc24 => ?_)
 ·
  obtain ⟨hsa, hn1, hn2, hn3, hn4⟩ := spends_ok hinv hc24
  obtain ⟨hinvu25, hFlu25, hFltu25, gu25, Au25, capu25, Du25, hatu25, hGu25, hAFu25, hDFu25, hADu25⟩ := h
  have hlu25 := hatu25.blk
  have hAu25 := hatu25.sl
  have hlku25 := hlu25.lt
  have hAlu25 := fun q hq => And.intro (hAFu25 q hq).2 (hFlt q (hAFu25 q hq).1)
  have hAltu25 := SlT.lt hAu25
  have hDlu25 := fun q hq => And.intro (hDFu25 q hq).2 (hFlt q (hDFu25 q hq).1)
  have hDltu25 := Grd.lt hGu25
  have hx10u25 := hinvu25.1
  have htotu25 := hinvu25.2.2
  have hgu25lt := hDltu25 _ (Grd.at_ hGu25)
  obtain ⟨j26, hj26, hjl26⟩ : ∃ j : Nat, a = j ∧ j < 10 := ⟨(a).toNat, by have h9 := hsa; simp only [isA, decide_eq_true_eq] at h9; omega, by have h9 := hsa; simp only [isA, decide_eq_true_eq] at h9; omega⟩
  obtain ⟨j27, hj27, hjl27⟩ : ∃ j : Nat, b = j ∧ j < 10 := ⟨(b).toNat, by have h9 := (by simpa using hc20); simp only [isA, decide_eq_true_eq] at h9; omega, by have h9 := (by simpa using hc20); simp only [isA, decide_eq_true_eq] at h9; omega⟩
  obtain ⟨x0, hx0⟩ : ∃ x, xs[j26]? = some x := ⟨_, List.getElem?_eq_getElem (by omega)⟩
  have hxa := acct_at hj26 hx0 hjl26
  rw [hxa] at hn3 hn4
  obtain ⟨hbf0, hbh0, hbt0, _⟩ := hinv.at_ hx0
  refine Vr <| On 3 [0, 1, 2, 3, 9, 35] <| Lr 0 (.slice Au25 xs.length capu25) hlu25 <| On 5 [0, 2, 3, 9, 36, 37] ?_
  obtain ⟨b28, o28, L28, T28, rfl, hat28⟩ := SlT.opn hAu25
  have hb28lt := hat28.blk.lt
  have hob29 := hAlu25 b28 ⟨_, rfl, rfl⟩
  have hob30 := hAltu25 b28 ⟨_, rfl, rfl⟩
  have hne31 : ∀ q, Du25 q → q ≠ b28 := fun q hq hs => (fun q h1 h2 => hADu25 q h2 h1) q hq ⟨_, rfl, hs⟩
  have own32 := fun q hq => And.intro (hDlu25 q hq) (hne31 q hq)
  refine Op_ [(0, pt l),(2, nt b),(3, nt n),(9, nt (spendsE xs cs a n)),(36, sl_ b28 o28 xs.length capu25),(37, nt a)] <| Oq (u := nt a) (v := nt (j26 : Int)) 37 (by rw [hj26]) <| Oi (b := b28) (o := o28) (len := xs.length) (cap := capu25) (j := j26) (some 38) 104 (.tmp 36) (.tmp 37) 93 2 16 .i64 <| On 7 [0, 2, 3, 9, 36, 37, 39] <| Lc (o28 + j26 * 2) (nt x0.free) hat28.blk (At.cell0 hat28 (es_at hx0) rfl) ?_
  have hw33 : i64.wrap (x0.free - n) = x0.free - n := wrp
  refine On 10 [0, 2, 3, 9, 36, 37, 42] <| Oq (u := nt (i64.wrap (x0.free - n))) (v := nt (x0.free - n)) 42 (by rw [hw33]) <| Oi (b := b28) (o := o28) (len := xs.length) (cap := capu25) (j := j26) (some 43) 104 (.tmp 36) (.tmp 37) 93 2 16 .i64 <| On 12 [0, 2, 3, 9, 42, 44] <| Ts1 (Acc.mk (x0.free - n) x0.held : Acc) 0 (nt (x0.free - n)) hat28 hx0 (by simp [Acc.cells, over]) ?_
  intro w34 hat38 hk36 hz37 hlhx39 hx39
  have hsz40 := Keep.size hk36
  replace hlu25 := hlu25.k1 hk36
  replace hK0 := Keep.fresh hK0 hk36 (by intro i hi hs; have hs2 : i = b28 := hs; first | (exfalso; omega) | (rw [hs2]; exact (hAFu25 _ ⟨_, rfl, rfl⟩).1))
  replace hGu25 := Grd.keep hGu25 hk36 (fun q hq hs => by have hs : q = b28 := hs; have g0 := own32 q hq; have g1 := hDltu25 q hq; omega)
  have ht41 : tot (xs.set j26 (Acc.mk (x0.free - n) x0.held)) = tot xs + ((x0.free - n) + x0.held) - (x0.free + x0.held) := tot_set _ hx0
  have hinv41 : Inv (xs.set j26 (Acc.mk (x0.free - n) x0.held)) := Inv.set hinvu25 hx0 _ (by show 0 ≤ (x0.free - n); omega) (by show 0 ≤ x0.held; omega) (by show tot xs + ((x0.free - n) + x0.held) - (x0.free + x0.held) ≤ 1073741824; omega)
  refine Oe <| V_region <| On 3 [2, 3, 9, 47] <| Lr 0 (sl_ b28 o28 xs.length capu25) hlu25 <| On 5 [3, 9, 48, 49] <| Op_ [(3, nt n),(9, nt (spendsE xs cs a n)),(48, sl_ b28 o28 xs.length capu25),(49, nt b)] <| Oq (u := nt b) (v := nt (j27 : Int)) 49 (by rw [hj27]) <| Oi (b := b28) (o := o28) (len := xs.length) (cap := capu25) (j := j27) (some 50) 104 (.tmp 48) (.tmp 49) 93 2 16 .i64 <| On 7 [3, 9, 48, 49, 51] ?_
  obtain ⟨x42, hx43⟩ := exAt (xs := xs.set j26 (Acc.mk (x0.free - n) x0.held)) (i := j27)
  obtain ⟨hbf44, hbh44, hbt44, _⟩ := hinv41.at_ hx43
  refine Lc (o28 + j27 * 2) (nt x42.free) hat38.blk (At.cell0 hat38 (es_at hx43) rfl) ?_
  have hw45 : i64.wrap (x42.free + n) = x42.free + n := wrp
  refine On 10 [9, 48, 49, 54] <| Oq (u := nt (i64.wrap (x42.free + n))) (v := nt (x42.free + n)) 54 (by rw [hw45]) <| Oi (b := b28) (o := o28) (len := xs.length) (cap := capu25) (j := j27) (some 55) 104 (.tmp 48) (.tmp 49) 93 2 16 .i64 <| On 12 [9, 54, 56] <| Ts1 (Acc.mk (x42.free + n) x42.held : Acc) 0 (nt (x42.free + n)) hat38 hx43 (by simp [Acc.cells, over]) ?_
  intro w46 hat50 hk48 hz49 hlhx51 hx51
  have hsz52 := Keep.size hk48
  replace hlu25 := hlu25.k1 hk48
  replace hK0 := Keep.fresh hK0 hk48 (by intro i hi hs; have hs2 : i = b28 := hs; first | (exfalso; omega) | (rw [hs2]; exact (hAFu25 _ ⟨_, rfl, rfl⟩).1))
  replace hGu25 := Grd.keep hGu25 hk48 (fun q hq hs => by have hs : q = b28 := hs; have g0 := own32 q hq; have g1 := hDltu25 q hq; omega)
  have ht53 : tot ((xs.set j26 (Acc.mk (x0.free - n) x0.held)).set j27 (Acc.mk (x42.free + n) x42.held)) = tot (xs.set j26 (Acc.mk (x0.free - n) x0.held)) + ((x42.free + n) + x42.held) - (x42.free + x42.held) := tot_set _ hx43
  have hinv53 : Inv ((xs.set j26 (Acc.mk (x0.free - n) x0.held)).set j27 (Acc.mk (x42.free + n) x42.held)) := Inv.set hinv41 hx43 _ (by show 0 ≤ (x42.free + n); omega) (by show 0 ≤ x42.held; omega) (by show tot (xs.set j26 (Acc.mk (x0.free - n) x0.held)) + ((x42.free + n) + x42.held) - (x42.free + x42.held) ≤ 1073741824; omega)
  exact Oer <| Oen [8] <| Rr (nt (spendsE xs cs a n)) ⟨by unfold transE; simp_all, ⟨F, (by rw [show transX xs cs a b n = addF (subF xs a n) b n from by unfold transX; rw [if_pos ⟨(by simpa using hc20), hc24⟩], show subF xs a n = _ from by unfold subF; rw [setA_at hj26, acct_at hj26 hx0 hjl26], show addF (xs.set j26 (Acc.mk (x0.free - n) x0.held)) b n = _ from by unfold addF; rw [setA_at hj27, acct_at hj27 hx43 hjl27]]; exact ⟨hinv53, hFlu25, fun q hq => Nat.lt_of_lt_of_le (hFltu25 q hq) (by omega), gu25, _, _, Du25, ⟨by simp only [List.length_set]; exact hlu25, At.slt hat50⟩, hGu25, hAFu25, hDFu25, hADu25⟩), fun q h => .inl h⟩, hK0⟩
 exact Vsk <| Vn [8] <| Rr (nt (spendsE xs cs a n)) ⟨by unfold transE; simp_all, ⟨F, by rw [show transX xs cs a b n = xs from by unfold transX; simp_all]; exact h, fun q h => .inl h⟩, hK0⟩
theorem reserve_spec (F : Nat → Prop) (l : Nat) (xs : List Acc) (cs : List Ci) (a n : Int) (w : World) (h : Led F w l xs cs) : Calls Tryz.prog 52 #[pt l, nt a, nt n] w fun e w' => e = .returned (nt (spendsE xs cs a n)) ∧ (∃ F', Led F' w' l (resX xs cs a n) (cs) ∧ (∀ q, F' q → F q ∨ w.heap.size ≤ q)) ∧ Keep F w w' := by
 have hFlt := Led.lt h
 have hllt := hFlt _ (Led.at_ h)
 have hinv := Led.inv h
 have hK0 := Keep.refl F w
 refine eV ?_
 refine Vr <| On 1 [0, 1, 2] <| Oer <| On 3 [0, 1, 2, 8, 9, 10] <| Kk (spends_spec F l xs cs a n _ h) fun w1 hk2 _ => ?_
 replace h := h.keep hk2 nk
 replace hK0 := hK0.tn hk2
 refine On 5 [0, 1, 2, 7] <| Oe <| V_seq <| Vn [0, 1, 2, 7, 13] <| Vi (spendsE xs cs a n = 0) (fun hc4 => ?_) (fun hc4 => ?_)
 ·
  obtain ⟨hsa, hn1, hn2, hn3, hn4⟩ := spends_ok hinv hc4
  obtain ⟨hinvu5, hFlu5, hFltu5, gu5, Au5, capu5, Du5, hatu5, hGu5, hAFu5, hDFu5, hADu5⟩ := h
  have hlu5 := hatu5.blk
  have hAu5 := hatu5.sl
  have hlku5 := hlu5.lt
  have hAlu5 := fun q hq => And.intro (hAFu5 q hq).2 (hFlt q (hAFu5 q hq).1)
  have hAltu5 := SlT.lt hAu5
  have hDlu5 := fun q hq => And.intro (hDFu5 q hq).2 (hFlt q (hDFu5 q hq).1)
  have hDltu5 := Grd.lt hGu5
  have hx10u5 := hinvu5.1
  have htotu5 := hinvu5.2.2
  have hgu5lt := hDltu5 _ (Grd.at_ hGu5)
  obtain ⟨j6, hj6, hjl6⟩ : ∃ j : Nat, a = j ∧ j < 10 := ⟨(a).toNat, by have h9 := hsa; simp only [isA, decide_eq_true_eq] at h9; omega, by have h9 := hsa; simp only [isA, decide_eq_true_eq] at h9; omega⟩
  obtain ⟨x0, hx0⟩ : ∃ x, xs[j6]? = some x := ⟨_, List.getElem?_eq_getElem (by omega)⟩
  have hxa := acct_at hj6 hx0 hjl6
  rw [hxa] at hn3 hn4
  obtain ⟨hbf0, hbh0, hbt0, _⟩ := hinv.at_ hx0
  refine Vr <| On 3 [0, 1, 2, 7, 16] <| Lr 0 (.slice Au5 xs.length capu5) hlu5 <| On 5 [0, 1, 2, 7, 17, 18] ?_
  obtain ⟨b7, o7, L7, T7, rfl, hat7⟩ := SlT.opn hAu5
  have hb7lt := hat7.blk.lt
  have hob8 := hAlu5 b7 ⟨_, rfl, rfl⟩
  have hob9 := hAltu5 b7 ⟨_, rfl, rfl⟩
  have hne10 : ∀ q, Du5 q → q ≠ b7 := fun q hq hs => (fun q h1 h2 => hADu5 q h2 h1) q hq ⟨_, rfl, hs⟩
  have own11 := fun q hq => And.intro (hDlu5 q hq) (hne10 q hq)
  refine Op_ [(0, pt l),(1, nt a),(2, nt n),(7, nt (spendsE xs cs a n)),(17, sl_ b7 o7 xs.length capu5),(18, nt a)] <| Oq (u := nt a) (v := nt (j6 : Int)) 18 (by rw [hj6]) <| Oi (b := b7) (o := o7) (len := xs.length) (cap := capu5) (j := j6) (some 19) 104 (.tmp 17) (.tmp 18) 93 2 16 .i64 <| On 7 [0, 1, 2, 7, 17, 18, 20] <| Lc (o7 + j6 * 2) (nt x0.free) hat7.blk (At.cell0 hat7 (es_at hx0) rfl) ?_
  have hw12 : i64.wrap (x0.free - n) = x0.free - n := wrp
  refine On 10 [0, 1, 2, 7, 17, 18, 23] <| Oq (u := nt (i64.wrap (x0.free - n))) (v := nt (x0.free - n)) 23 (by rw [hw12]) <| Oi (b := b7) (o := o7) (len := xs.length) (cap := capu5) (j := j6) (some 24) 104 (.tmp 17) (.tmp 18) 93 2 16 .i64 <| On 12 [0, 1, 2, 7, 23, 25] <| Ts1 (Acc.mk (x0.free - n) x0.held : Acc) 0 (nt (x0.free - n)) hat7 hx0 (by simp [Acc.cells, over]) ?_
  intro w13 hat17 hk15 hz16 hlhx18 hx18
  have hsz19 := Keep.size hk15
  replace hlu5 := hlu5.k1 hk15
  replace hK0 := Keep.fresh hK0 hk15 (by intro i hi hs; have hs2 : i = b7 := hs; first | (exfalso; omega) | (rw [hs2]; exact (hAFu5 _ ⟨_, rfl, rfl⟩).1))
  replace hGu5 := Grd.keep hGu5 hk15 (fun q hq hs => by have hs : q = b7 := hs; have g0 := own11 q hq; have g1 := hDltu5 q hq; omega)
  have ht20 : tot (xs.set j6 (Acc.mk (x0.free - n) x0.held)) = tot xs + ((x0.free - n) + x0.held) - (x0.free + x0.held) := tot_set _ hx0
  have hinv20 : Inv (xs.set j6 (Acc.mk (x0.free - n) x0.held)) := Inv.set hinvu5 hx0 _ (by show 0 ≤ (x0.free - n); omega) (by show 0 ≤ x0.held; omega) (by show tot xs + ((x0.free - n) + x0.held) - (x0.free + x0.held) ≤ 1073741824; omega)
  refine Oe <| V_region <| On 3 [1, 2, 7, 28] <| Lr 0 (sl_ b7 o7 xs.length capu5) hlu5 <| On 5 [2, 7, 29, 30] <| Op_ [(2, nt n),(7, nt (spendsE xs cs a n)),(29, sl_ b7 o7 xs.length capu5),(30, nt a)] <| Oq (u := nt a) (v := nt (j6 : Int)) 30 (by rw [hj6]) <| Oi (b := b7) (o := o7) (len := xs.length) (cap := capu5) (j := j6) (some 31) 104 (.tmp 29) (.tmp 30) 93 2 16 .i64 <| On 7 [2, 7, 29, 30, 32] <| Lc (o7 + j6 * 2 + 1) (nt x0.held) hat17.blk (At.cell hat17 (es_at hx18) rfl) ?_
  have hw21 : i64.wrap (x0.held + n) = x0.held + n := wrp
  refine On 10 [7, 29, 30, 35] <| Oq (u := nt (i64.wrap (x0.held + n))) (v := nt (x0.held + n)) 35 (by rw [hw21]) <| Oi (b := b7) (o := o7) (len := xs.length) (cap := capu5) (j := j6) (some 36) 104 (.tmp 29) (.tmp 30) 93 2 16 .i64 <| On 12 [7, 35, 37] <| Ts1 (Acc.mk (x0.free - n) (x0.held + n) : Acc) 1 (nt (x0.held + n)) hat17 hx18 (by simp [Acc.cells, over]) ?_
  intro w22 hat26 hk24 hz25 hlhx27 hx27
  have hsz28 := Keep.size hk24
  replace hlu5 := hlu5.k1 hk24
  replace hK0 := Keep.fresh hK0 hk24 (by intro i hi hs; have hs2 : i = b7 := hs; first | (exfalso; omega) | (rw [hs2]; exact (hAFu5 _ ⟨_, rfl, rfl⟩).1))
  replace hGu5 := Grd.keep hGu5 hk24 (fun q hq hs => by have hs : q = b7 := hs; have g0 := own11 q hq; have g1 := hDltu5 q hq; omega)
  have ht29 : tot ((xs.set j6 (Acc.mk (x0.free - n) x0.held)).set j6 (Acc.mk (x0.free - n) (x0.held + n))) = tot (xs.set j6 (Acc.mk (x0.free - n) x0.held)) + ((x0.free - n) + (x0.held + n)) - ((x0.free - n) + x0.held) := tot_set _ hx18
  have hinv29 : Inv ((xs.set j6 (Acc.mk (x0.free - n) x0.held)).set j6 (Acc.mk (x0.free - n) (x0.held + n))) := Inv.set hinv20 hx18 _ (by show 0 ≤ (x0.free - n); omega) (by show 0 ≤ (x0.held + n); omega) (by show tot (xs.set j6 (Acc.mk (x0.free - n) x0.held)) + ((x0.free - n) + (x0.held + n)) - ((x0.free - n) + x0.held) ≤ 1073741824; omega)
  exact Oer <| Oen [6] <| Rr (nt (spendsE xs cs a n)) ⟨rfl, ⟨F, (by rw [show resX xs cs a n = addH (subF xs a n) a n from by unfold resX; rw [if_pos hc4], show subF xs a n = _ from by unfold subF; rw [setA_at hj6, acct_at hj6 hx0 hjl6], show addH (xs.set j6 (Acc.mk (x0.free - n) x0.held)) a n = _ from by unfold addH; rw [setA_at hj6, acct_at hj6 hx18 hjl6]]; exact ⟨hinv29, hFlu5, fun q hq => Nat.lt_of_lt_of_le (hFltu5 q hq) (by omega), gu5, _, _, Du5, ⟨by simp only [List.length_set]; exact hlu5, At.slt hat26⟩, hGu5, hAFu5, hDFu5, hADu5⟩), fun q h => .inl h⟩, hK0⟩
 exact Vsk <| Vn [6] <| Rr (nt (spendsE xs cs a n)) ⟨rfl, ⟨F, by rw [show resX xs cs a n = xs from by unfold resX; simp_all]; exact h, fun q h => .inl h⟩, hK0⟩
end Go.Al
namespace Go.Al
open Go Go.RowKit Go.Proofs
theorem tkX_tot {xs : List Acc} (hi : Inv xs) (a n : Int) : tot (tkX xs a n) = tot xs - tkN xs a n := by
  unfold tkX
  by_cases ha : isA a = true
  · obtain ⟨j, x, rfl, hj, hx, he⟩ := isA_some hi ha
    rw [if_pos ha]
    unfold subH
    rw [setA_at rfl, he, tot_set _ hx]
    simp only []
    omega
  · rw [if_neg ha]
    unfold tkN
    rw [if_neg ha]; omega
theorem takes_spec (F : Nat → Prop) (l : Nat) (xs : List Acc) (cs : List Ci) (a n : Int) (w : World) (h : Led F w l xs cs) : Calls Tryz.prog 108 #[pt l, nt a, nt n] w fun e w' => e = .returned (nt (tkN xs a n)) ∧ (∃ F', Led F' w' l (tkX xs a n) (cs) ∧ (∀ q, F' q → F q ∨ w.heap.size ≤ q)) ∧ Keep F w w' := by
 have hFlt := Led.lt h
 have hllt := hFlt _ (Led.at_ h)
 have hinv := Led.inv h
 have hK0 := Keep.refl F w
 refine eV ?_
 refine Vr <| On 1 [0, 1, 2] <| Oer <| On 2 [0, 1, 2, 10, 11] <| Kk (account_spec F l xs cs a _ h) fun w7 hk8 _ => ?_
 replace h := h.keep hk8 nk
 replace hK0 := hK0.tn hk8
 refine On 6 [0, 1, 2, 13, 14] <| Alc_ 93 (.agg #[nt 0, nt 0]) [nt 0, nt 0] ?_
 intro b10 w10 e10 hb10 k10 z10
 have hsz11 := Keep.size k10
 replace h := h.keep k10 nk
 replace hK0 := hK0.tn k10
 have hb10lt := hb10.lt
 refine Sg 0 (Acc.cells (acct xs a)) hb10 (Acc.len _) (Acc.one _) ?_
 intro w12 hb10_15 hk13 hz14
 replace hb10_15 : Blk w12 b10 (Acc.cells (acct xs a)) 93 := (by rwa [over_whole (by rw [Acc.len]; rfl)] at hb10_15)
 have hsz16 := Keep.size hk13
 replace h := h.keep hk13 (fun q hq hs => by have hs : q = b10 := hs; have g1 := hFlt q hq; omega)
 replace hK0 := Keep.fresh hK0 hk13 (by intro i hi hs; have hs2 : i = b10 := hs; exfalso; omega)
 refine On 9 [0, 1, 2, 7, 8] <| Oe <| V_seq <| Vn [0, 1, 2, 7, 16] <| Vb (!(isA a)) (fun hc17 => ?_) (fun hc17 => ?_)
 ·
  exact Vn [6] <| Rt <| Xr (nt 0) ⟨by unfold tkN; simp_all, ⟨F, by rw [show tkX xs a n = xs from by unfold tkX; simp_all]; exact h, fun q h => .inl h⟩, hK0⟩
 obtain ⟨hinvu18, hFlu18, hFltu18, gu18, Au18, capu18, Du18, hatu18, hGu18, hAFu18, hDFu18, hADu18⟩ := h
 have hlu18 := hatu18.blk
 have hAu18 := hatu18.sl
 have hlku18 := hlu18.lt
 have hAlu18 := fun q hq => And.intro (hAFu18 q hq).2 (hFlt q (hAFu18 q hq).1)
 have hAltu18 := SlT.lt hAu18
 have hDlu18 := fun q hq => And.intro (hDFu18 q hq).2 (hFlt q (hDFu18 q hq).1)
 have hDltu18 := Grd.lt hGu18
 have hx10u18 := hinvu18.1
 have htotu18 := hinvu18.2.2
 have hgu18lt := hDltu18 _ (Grd.at_ hGu18)
 obtain ⟨j19, hj19, hjl19⟩ : ∃ j : Nat, a = j ∧ j < 10 := ⟨(a).toNat, by have h9 := (by simpa using hc17); simp only [isA, decide_eq_true_eq] at h9; omega, by have h9 := (by simpa using hc17); simp only [isA, decide_eq_true_eq] at h9; omega⟩
 obtain ⟨x0, hx0⟩ : ∃ x, xs[j19]? = some x := ⟨_, List.getElem?_eq_getElem (by omega)⟩
 have hxa := acct_at hj19 hx0 hjl19
 obtain ⟨hbf0, hbh0, hbt0, _⟩ := hinvu18.at_ hx0
 have htk : 0 ≤ imax (imin n (acct xs a).held) 0 ∧ imax (imin n (acct xs a).held) 0 ≤ x0.held := by rw [hxa]; exact tk_bnd hbh0
 refine Vsk <| Vr <| On 2 [0, 1, 17, 18] <| Lr 1 (nt ((acct xs a).held)) hb10_15 <| On 6 [0, 1, 2] <| Oer <| On 3 [1, 2, 24] <| Lr 0 (.slice Au18 xs.length capu18) hlu18 <| On 5 [2, 25, 26] ?_
 obtain ⟨b20, o20, L20, T20, rfl, hat20⟩ := SlT.opn hAu18
 have hb20lt := hat20.blk.lt
 have hob21 := hAlu18 b20 ⟨_, rfl, rfl⟩
 have hob22 := hAltu18 b20 ⟨_, rfl, rfl⟩
 have hne23 : ∀ q, Du18 q → q ≠ b20 := fun q hq hs => (fun q h1 h2 => hADu18 q h2 h1) q hq ⟨_, rfl, hs⟩
 have own24 := fun q hq => And.intro (hDlu18 q hq) (hne23 q hq)
 refine Op_ [(2, nt (imax (imin n ((acct xs a).held)) 0)),(25, sl_ b20 o20 xs.length capu18),(26, nt a)] <| Oq (u := nt a) (v := nt (j19 : Int)) 26 (by rw [hj19]) <| Oi (b := b20) (o := o20) (len := xs.length) (cap := capu18) (j := j19) (some 27) 104 (.tmp 25) (.tmp 26) 93 2 16 .i64 <| On 7 [2, 25, 26, 28] <| Lc (o20 + j19 * 2 + 1) (nt x0.held) hat20.blk (At.cell hat20 (es_at hx0) rfl) ?_
 have hw25 : i64.wrap (x0.held - (imax (imin n ((acct xs a).held)) 0)) = x0.held - (imax (imin n ((acct xs a).held)) 0) := wrp
 refine On 10 [2, 25, 26, 31] <| Oq (u := nt (i64.wrap (x0.held - (imax (imin n ((acct xs a).held)) 0)))) (v := nt (x0.held - (imax (imin n ((acct xs a).held)) 0))) 31 (by rw [hw25]) <| Oi (b := b20) (o := o20) (len := xs.length) (cap := capu18) (j := j19) (some 32) 104 (.tmp 25) (.tmp 26) 93 2 16 .i64 <| On 12 [2, 31, 33] <| Ts1 (Acc.mk x0.free (x0.held - (imax (imin n ((acct xs a).held)) 0)) : Acc) 1 (nt (x0.held - (imax (imin n ((acct xs a).held)) 0))) hat20 hx0 (by simp [Acc.cells, over]) ?_
 intro w26 hat30 hk28 hz29 hlhx31 hx31
 have hsz32 := Keep.size hk28
 replace hlu18 := hlu18.k1 hk28
 replace hK0 := Keep.fresh hK0 hk28 (by intro i hi hs; have hs2 : i = b20 := hs; first | (exfalso; omega) | (rw [hs2]; exact (hAFu18 _ ⟨_, rfl, rfl⟩).1))
 replace hGu18 := Grd.keep hGu18 hk28 (fun q hq hs => by have hs : q = b20 := hs; have g0 := own24 q hq; have g1 := hDltu18 q hq; omega)
 have ht33 : tot (xs.set j19 (Acc.mk x0.free (x0.held - (imax (imin n ((acct xs a).held)) 0)))) = tot xs + (x0.free + (x0.held - (imax (imin n ((acct xs a).held)) 0))) - (x0.free + x0.held) := tot_set _ hx0
 have hinv33 : Inv (xs.set j19 (Acc.mk x0.free (x0.held - (imax (imin n ((acct xs a).held)) 0)))) := Inv.set hinvu18 hx0 _ (by show 0 ≤ x0.free; omega) (by show 0 ≤ (x0.held - (imax (imin n ((acct xs a).held)) 0)); omega) (by show tot xs + (x0.free + (x0.held - (imax (imin n ((acct xs a).held)) 0))) - (x0.free + x0.held) ≤ 1073741824; omega)
 refine Oer <| Oen [6] <| V_ret ?_
 have hsa : isA a = true := (by simpa using hc17)
 exact Xr (nt (imax (imin n ((acct xs a).held)) 0)) ⟨by simp only [tkN, hsa, if_true], ⟨F, (by rw [show tkX xs a n = xs.set j19 (Acc.mk x0.free (x0.held - (imax (imin n ((acct xs a).held)) 0))) from by simp only [tkX, tkN, subH, hsa, if_true, setA_at hj19, hxa]]; exact ⟨hinv33, hFlu18, fun q hq => Nat.lt_of_lt_of_le (hFltu18 q hq) (by omega), gu18, _, _, Du18, ⟨by simp only [List.length_set]; exact hlu18, At.slt hat30⟩, hGu18, hAFu18, hDFu18, hADu18⟩), fun q h => .inl h⟩, hK0⟩
end Go.Al
namespace Go.Al
open Go Go.RowKit Go.Proofs
theorem slash_spec (F : Nat → Prop) (l : Nat) (xs : List Acc) (cs : List Ci) (a n : Int) (w : World) (h : Led F w l xs cs) : Calls Tryz.prog 90 #[pt l, nt a, nt n] w fun e w' => e = .returned (nt (tkN xs a n)) ∧ (∃ F', Led F' w' l (slX xs a n) (cs) ∧ (∀ q, F' q → F q ∨ w.heap.size ≤ q)) ∧ Keep F w w' := by
 have hFlt := Led.lt h
 have hllt := hFlt _ (Led.at_ h)
 have hinv := Led.inv h
 have htot0 := (tot_mem hinv.2.1).1
 have htot1 := hinv.2.2
 have hK0 := Keep.refl F w
 refine eV ?_
 refine Vr <| On 1 [0, 1, 2] <| Oer <| On 3 [0, 7, 8, 9] <| Kg (takes_spec F l xs cs a n _ h) ?_
 rintro _ w1 ⟨rfl, ⟨F3, ho4, hfr5⟩, hk2⟩
 refine ⟨_, rfl, ?_⟩
 have hsz6 := Keep.size hk2
 replace hK0 := Keep.fresh hK0 hk2 (by intro i hi hs; first | exact hs | (exfalso; have h2 := hFlt i hs; omega) | (have h2 := hFlt i hs; show _ ∨ _; omega))
 have lt7 := Led.lt ho4
 refine On 5 [0, 2] <| Oe <| V_seq <| Vn [0, 2, 12] <| Vi (tkN xs a n > 0) (fun hc8 => ?_) (fun hc8 => ?_)
 ·
  have htx := tkX_tot hinv a n
  obtain ⟨hinvu9, hFlu9, hFltu9, gu9, Au9, capu9, Du9, hatu9, hGu9, hAFu9, hDFu9, hADu9⟩ := ho4
  have hlu9 := hatu9.blk
  have hAu9 := hatu9.sl
  have hlku9 := hlu9.lt
  have hAlu9 := fun q hq => And.intro (hAFu9 q hq).2 (lt7 q (hAFu9 q hq).1)
  have hAltu9 := SlT.lt hAu9
  have hDlu9 := fun q hq => And.intro (hDFu9 q hq).2 (lt7 q (hDFu9 q hq).1)
  have hDltu9 := Grd.lt hGu9
  have hx10u9 := hinvu9.1
  have htotu9 := hinvu9.2.2
  have hgu9lt := hDltu9 _ (Grd.at_ hGu9)
  obtain ⟨x0, hx0⟩ : ∃ x, (tkX xs a n)[0]? = some x := ⟨_, List.getElem?_eq_getElem (by omega)⟩
  obtain ⟨hbf0, hbh0, hbt0, _⟩ := hinvu9.at_ hx0
  have htn := tkN_bnd hinv a n
  have htb := acct_bnd hinv a
  refine V_region <| On 3 [2, 15] <| Lr 0 (.slice Au9 ((tkX xs a n).length) capu9) hlu9 ?_
  obtain ⟨b10, o10, L10, T10, rfl, hat10⟩ := SlT.opn hAu9
  have hb10lt := hat10.blk.lt
  have hob11 := hAlu9 b10 ⟨_, rfl, rfl⟩
  have hob12 := hAltu9 b10 ⟨_, rfl, rfl⟩
  have hne13 : ∀ q, Du9 q → q ≠ b10 := fun q hq hs => (fun q h1 h2 => hADu9 q h2 h1) q hq ⟨_, rfl, hs⟩
  have own14 := fun q hq => And.intro (hDlu9 q hq) (hne13 q hq)
  refine Oi (b := b10) (o := o10) (len := (tkX xs a n).length) (cap := capu9) (j := 0) (some 17) 104 (.tmp 16) (.const (Value.int IntKind.i64 0)) 93 2 16 .i64 <| On 6 [2, 16, 18] <| Lc (o10 + 0 * 2) (nt x0.free) hat10.blk (At.cell0 hat10 (es_at hx0) rfl) ?_
  have hw15 : i64.wrap (x0.free + (tkN xs a n)) = x0.free + (tkN xs a n) := wrp
  refine On 9 [2, 16, 21] <| Oq (u := nt (i64.wrap (x0.free + (tkN xs a n)))) (v := nt (x0.free + (tkN xs a n))) 21 (by rw [hw15]) <| Oi (b := b10) (o := o10) (len := (tkX xs a n).length) (cap := capu9) (j := 0) (some 22) 104 (.tmp 16) (.const (Value.int IntKind.i64 0)) 93 2 16 .i64 <| On 11 [2, 21, 23] <| Ts1 (Acc.mk (x0.free + (tkN xs a n)) x0.held : Acc) 0 (nt (x0.free + (tkN xs a n))) hat10 hx0 (by simp [Acc.cells, over]) ?_
  intro w16 hat20 hk18 hz19 hlhx21 hx21
  have hsz22 := Keep.size hk18
  replace hlu9 := hlu9.k1 hk18
  replace hK0 := Keep.fresh hK0 hk18 (by intro i hi hs; have hs2 : i = b10 := hs; first | (exfalso; omega) | (have h9 := (hAFu9 i ⟨_, rfl, hs2⟩).1; rcases hfr5 i h9 with h9 | h9; exact h9; (exfalso; omega)))
  replace hGu9 := Grd.keep hGu9 hk18 (fun q hq hs => by have hs : q = b10 := hs; have g0 := own14 q hq; have g1 := hDltu9 q hq; omega)
  have ht23 : tot ((tkX xs a n).set 0 (Acc.mk (x0.free + (tkN xs a n)) x0.held)) = tot (tkX xs a n) + ((x0.free + (tkN xs a n)) + x0.held) - (x0.free + x0.held) := tot_set _ hx0
  have hinv23 : Inv ((tkX xs a n).set 0 (Acc.mk (x0.free + (tkN xs a n)) x0.held)) := Inv.set hinvu9 hx0 _ (by show 0 ≤ (x0.free + (tkN xs a n)); omega) (by show 0 ≤ x0.held; omega) (by show tot (tkX xs a n) + ((x0.free + (tkN xs a n)) + x0.held) - (x0.free + x0.held) ≤ 1073741824; omega)
  exact Oer <| Oen [6] <| Rr (nt (tkN xs a n)) ⟨rfl, ⟨F3, (by rw [show slX xs a n = (tkX xs a n).set 0 (Acc.mk (x0.free + (tkN xs a n)) x0.held) from by unfold slX; rw [if_pos hc8]; unfold addF; rw [setA_at (rfl : (0 : Int) = ((0 : Nat) : Int)), acct_at (rfl : (0 : Int) = ((0 : Nat) : Int)) hx0 (by decide)]]; exact ⟨hinv23, hFlu9, fun q hq => Nat.lt_of_lt_of_le (hFltu9 q hq) (by omega), gu9, _, _, Du9, ⟨by simp only [List.length_set]; exact hlu9, At.slt hat20⟩, hGu9, hAFu9, hDFu9, hADu9⟩), hfr5⟩, hK0⟩
 exact Vsk <| Vn [6] <| Rr (nt (tkN xs a n)) ⟨rfl, ⟨F3, by rw [show slX xs a n = tkX xs a n from by unfold slX; rw [if_neg hc8]]; exact ho4, hfr5⟩, hK0⟩
end Go.Al
namespace Go.Al
open Go Go.RowKit Go.Proofs
def newX (fs : List Int) (n : Nat) : List Acc := (List.range n).map fun k : Nat => Acc.mk ((fs[k]?).getD 0) 0
theorem newX_len (fs : List Int) (n : Nat) : (newX fs n).length = n := by simp [newX]
theorem newX_succ (fs : List Int) (n : Nat) : newX fs (n + 1) = newX fs n ++ [Acc.mk ((fs[n]?).getD 0) 0] := by simp [newX, List.range_succ]
def okF (fs : List Int) (i : Nat) : Prop := ∀ (k : Nat) (x : Int), k < i → fs[k]? = some x → 0 ≤ x ∧ x ≤ 1073741824
def okP (fs : List Int) : Prop := fs.length ≤ 10 ∧ (∀ x ∈ fs, 0 ≤ x ∧ x ≤ 1073741824) ∧ tot (newX fs 10) ≤ 1073741824
theorem okF_all {fs : List Int} (hl : fs.length ≤ 10) (h : okF fs 10) : ∀ x ∈ fs, 0 ≤ x ∧ x ≤ 1073741824 := by
  intro x hx
  obtain ⟨k, hk, rfl⟩ := List.getElem_of_mem hx
  exact h k _ (by omega) (List.getElem?_eq_getElem hk)
theorem newX_nn {fs : List Int} {i : Nat} (h : okF fs i) : ∀ x ∈ newX fs i, 0 ≤ x.free ∧ 0 ≤ x.held := by
  intro x hx
  simp only [newX, List.mem_map, List.mem_range] at hx
  obtain ⟨k, hk, rfl⟩ := hx
  refine ⟨?_, Int.le_refl _⟩
  show 0 ≤ (fs[k]?).getD 0
  cases hf : fs[k]? with
  | none => exact Int.le_refl _
  | some x => exact (h k x hk hf).1
theorem newX_tot {fs : List Int} : ∀ {i : Nat}, okF fs i → tot (newX fs i) ≤ i * 1073741824
  | 0, _ => by simp [newX, tot]
  | i + 1, h => by
    have ih := newX_tot (i := i) (fun k x hk hx => h k x (by omega) hx)
    have happ : ∀ (a b : List Acc), tot (a ++ b) = tot a + tot b := by
      intro a b
      induction a with
      | nil => simp [tot]
      | cons y l ih => simp only [List.cons_append, tot, ih]; omega
    rw [newX_succ, happ]
    simp only [tot]
    have : (fs[i]?).getD 0 ≤ 1073741824 := by
      cases hf : fs[i]? with
      | none => simp
      | some x => exact (h i x (by omega) hf).2
    omega
theorem new_spec6 (A : Option Addr) (cap : Nat) (fs : List Int) (w : World) (hA : ArgT w 1 intc A cap fs) (hn : fs.length ≤ 100000) : Calls Tryz.prog 17 #[.slice A fs.length cap] w fun e w' => (okP fs ∧ ∃ l F, e = .returned (.tuple #[pt l, nt 0]) ∧ Led F w' l (newX fs 10) [] ∧ Keep none_ w w' ∧ (∀ q, F q → w.heap.size ≤ q)) ∨ (¬ okP fs ∧ e = .returned (.tuple #[.pointer none, nt 1]) ∧ Keep none_ w w') := by
 have hA0 := hA
 have hK0 := Keep.refl none_ w
 refine eV ?_
 refine Vr <| On 2 [0] <| Oe <| V_seq <| Vn [0, 9] <| Vi ((fs.length : Int) > 10) (fun hc1 => ?_) (fun hc1 => ?_)
 ·
  refine Vs [(2, .pointer none),(3, nt 1)] <| Rt ?_
  exact X_return _ rfl (.inr ⟨fun hh => by have := hh.1; omega, rfl, hK0⟩)
 refine Vsk <| Vr <| Kg (new_grd _) ?_
 rintro _ w4 ⟨g6, F7, rfl, ho8, hk5, hge9⟩
 refine ⟨_, rfl, ?_⟩
 have hsz10 := Keep.size hk5
 replace hA := ArgT.keep0 hA hk5
 replace hK0 := hK0.tn hk5
 have own11 : ∀ q, F7 q → w.heap.size ≤ q := fun q hq => by have h1 := hge9 q hq; omega
 have lt12 := Grd.lt ho8
 have hg6lt : g6 < w4.heap.size := Grd.lt ho8 _ (Grd.at_ ho8)
 have hg6ge := hge9 _ (Grd.at_ ho8)
 refine On 2 [0, 11] <| Bx 106 [.slice none 0 0, pt g6] ?_
 intro b13 w13 e13 hb13 k13 z13
 have hsz14 := Keep.size k13
 replace hA := ArgT.keep0 hA k13
 replace hK0 := hK0.tn k13
 replace ho8 := Grd.keep ho8 k13 nk
 have hb13lt := hb13.lt
 refine On 4 [0, 4] <| Oe <| V_seq <| Vn [0, 4, 13] <| V_block <| Vp [(0, .slice A fs.length cap),(4, pt b13),(13, nt 0)] <| V_loop (fun k wI e => ∃ i : Nat, ∃ A2 : Option Addr, ∃ cap2 : Nat, (k + i = 10) ∧ (Blk wI b13 [.slice A2 (newX fs i).length cap2, pt g6] 106) ∧ (SlT wI 2 Acc.cells A2 cap2 (newX fs i)) ∧ (∀ q, inA A2 q → w13.heap.size ≤ q) ∧ (okF fs i) ∧ Keep (only b13) w13 wI ∧ e = [(0, .slice A fs.length cap),(4, pt b13),(13, nt (i : Int))]) 10 ⟨0, none, 0, by omega, hb13, SlT.nil _ _ _, fun q h => (inA_none h).elim, fun k x h => by omega, Keep.refl _ _, rfl⟩ ?_
 rintro k16 w15 _ ⟨i, A2, cap2, hki, hl2, hA2, ow2, hokf, hk17, rfl⟩
 have hsz18 := Keep.size hk17
 replace hA := ArgT.keep hA hk17 hA0 (fun k hk hs => by have hs : k = b13 := hs; omega)
 replace hK0 := Keep.fr hK0 hk17
 replace ho8 := Grd.keep ho8 hk17 (fun q hq hs => by have hs : q = b13 := hs; have g0 := own11 q hq; have g1 := lt12 q hq; omega)
 have hzhk17 := Keep.size hk17
 have lt2 := SlT.lt hA2
 have hb13lt := hl2.lt
 have hnl := newX_len fs i
 refine Vn [0, 4, 13, 14] <| V_seq <| Vi ((i : Int) < 10) (fun hc19 => ?_) (fun hc19 => ?_)
 ·
  refine Vsk <| V_seq <| V_block <| Vr <| On 2 [0, 4, 5, 13] <| Oer <| On 1 [0, 4, 5, 13, 16] <| Alc_ 93 (.agg #[nt 0, nt 0]) [nt 0, nt 0] ?_
  intro b20 w20 e20 hb20 k20 z20
  have hsz21 := Keep.size k20
  replace hl2 := hl2.k0 k20
  replace hA := ArgT.keep0 hA k20
  replace hA2 := hA2.keep0 k20
  replace hK0 := hK0.tn k20
  replace hk17 := hk17.tn k20
  have hb20lt := hb20.lt
  refine OI_set (m := 2) (kd := true) 93 (.tmp 6) (.tmp 16) 0 (.agg #[nt 0, nt 0]) [nt 0, nt 0] none (by kernel_rfl) (by kernel_rfl) (by kernel_rfl) hb20 (by kernel_rfl) (by kernel_rfl) (by kernel_rfl) (Nat.le_of_ble_eq_true (by kernel_rfl)) (by simp [Value.oneCell']) ?_
  intro w22 hb20_25 hk23 hz24
  replace hb20_25 : Blk w22 b20 [nt 0, nt 0] 93 := hb20_25
  have hsz26 := Keep.size hk23
  replace hl2 := hl2.k1 hk23
  replace hA := ArgT.keep hA hk23 hA0 (fun k hk hs => by have hs : k = b20 := hs; omega)
  replace hA2 := hA2.keep hk23 (fun q hq hs => by have hs : q = b20 := hs; have g0 := ow2 q hq; have g1 := lt2 q hq; omega)
  replace hK0 := Keep.fr hK0 hk23
  replace hk17 := Keep.fr hk17 hk23
  refine Oe <| V_seq <| Vn [0, 4, 5, 6, 13, 20] <| Vi ((i : Int) < (fs.length : Int)) (fun hc27 => ?_) (fun hc27 => ?_)
  ·
   refine V_region <| On 2 [0, 4, 6, 13, 21, 22] ?_
   obtain ⟨b28, o28, L28, rfl, hat28⟩ := ArgT.open_ hA (by first | omega | (simp only [List.length_map]; omega) | (simp; done) | (simp; omega))
   have hb28lt0 := ArgT.lt hA0 (by first | omega | (simp only [List.length_map]; omega) | (simp; done) | (simp; omega))
   have hb28lt := hat28.blk.lt
   refine Oi (b := b28) (o := o28) (len := fs.length) (cap := cap) (j := i) (some 23) 49 (.tmp 21) (.tmp 22) 3 1 8 .i64 ?_
   obtain ⟨x29, hx30⟩ := exAt (xs := fs) (i := i)
   refine OI_cellR 3 (.tmp 23) (o28 + i * 1) (nt x29) (some 24) (by kernel_rfl) (by kernel_rfl) hat28.blk (m := 1) (by kernel_rfl) (AtR.cell0 hat28 (es_at hx30) rfl) <| On 5 [0, 4, 6, 13, 24, 25] <| St_ 0 (nt x29) hb20_25 ?_
   intro w31 hb20_34 hk32 hz33
   replace hb20_34 : Blk w31 b20 [nt x29, nt 0] 93 := hb20_34
   have hsz35 := Keep.size hk32
   replace hl2 := hl2.k1 hk32
   replace hA2 := hA2.keep hk32 (fun q hq hs => by have hs : q = b20 := hs; have g0 := ow2 q hq; have g1 := lt2 q hq; omega)
   replace hK0 := Keep.fr hK0 hk32
   replace hk17 := Keep.fr hk17 hk32
   refine Oe <| V_seq <| Vr <| On 1 [0, 4, 6, 13, 26] <| Lr 0 (nt x29) hb20_34 <| Kq (isAmount_spec x29 _) <| Oen [0, 4, 6, 13, 29] <| V_not (0 ≤ x29 ∧ x29 ≤ 1073741824) (by kernel_rfl) (fun hc41 => ?_) (fun hc41 => ?_)
   ·
    refine Vs [(2, .pointer none),(3, nt 1)] <| Rt <| X_ret_block <| X_ret_then <| X_ret_then <| X_ret_block <| X_ret_then ?_
    exact X_return _ rfl (.inr ⟨fun hh => hc41 (hh.2.1 _ (List.mem_of_getElem? hx30)), rfl, hK0⟩)
   refine Vsk <| V_draws (acts [6, 7, 10]) (fun q => q ≠ b13 ∧ q ≠ b20) [[5, 6, 1, 2, 3, 4, 7, 0, 8, 9, 10]] (by kernel_rfl) (by repeat first | exact sure_body (by rintro _ _ (⟨_, _, _, h, _⟩ | ⟨_, h, _⟩) <;> exact ⟨_, h⟩) | refine sure_then ?_ | refine sure_block ?_ | refine sure_join ?_) (by kernel_rfl) ?_
   intro w43 hk42 he44 L hL45
   have hsz46 := Keep.size hk42
   replace hl2 := hl2.k0 hk42
   replace hb20_34 := hb20_34.k0 hk42
   replace hk17 := hk17.tn hk42
   have qhl2 := hl2
   have qhb20_34 := hb20_34
   have K47 : Keep (fun q => q ≠ b13 ∧ q ≠ b20) w43 w43 := Keep.refl _ _
   obtain rfl := List.mem_singleton.1 hL45
   refine Ma 0 [nt x29, nt 0] 2 qhb20_34 nb2 rfl rfl <| GI_slit (E := 93) (zv := .agg #[nt 0, nt 0]) (sz := 2) (by_ := 16) 104 1 #[(0, (Operand.tmp 35))] [.agg #[nt x29, nt 0]] [nt x29, nt 0] (some 36) (by kernel_rfl) (by kernel_rfl) K47 (by kernel_rfl) (by kernel_rfl) (by omega) rfl (by omega) (by intro v hv; simp only [List.mem_cons, List.not_mem_nil, or_false] at hv; rcases hv with rfl <;> rfl) (by kernel_rfl) rfl ?_
   intro b48 w48 e48 hb48 k48 z48 K49
   have hsz50 := Keep.size k48
   replace hl2 := hl2.k0 k48
   replace hA2 := hA2.keep0 (hk42.tr k48)
   replace hk17 := hk17.tn k48
   have hb48lt := hb48.lt
   refine Gn [4, 7, 0, 8, 9, 10] [0, 4, 13, 33, 36] <| Mc 0 (.slice A2 ((newX fs i).length) cap2) qhl2 nb1 rfl <| GI_append (t := 104) (at2 := 104) (E := 93) (E2 := 93) (sz := 2) (by_ := 16) (zv := .agg #[nt 0, nt 0]) (m := (newX fs i).length) (k := 1) (.tmp 34) (.tmp 36) (.slice A2 ((newX fs i).length) cap2) (sl_ b48 0 1 1) (some 37) (by kernel_rfl) (by kernel_rfl) (by kernel_rfl) (by kernel_rfl) (by kernel_rfl) (by kernel_rfl) (by kernel_rfl) (by kernel_rfl) (SlT.slr hA2) (slr_one hb48 (Acc.len (Acc.mk x29 0))) (Acc.one (Acc.mk x29 0)) (by first | omega | (simp only [List.length_nil]; omega)) (by omega) (by first | omega | (simp only [List.length_nil]; omega)) (by omega) ?_
   intro vv9 w51 hap
   obtain ⟨A51, cap51, rfl, hA51, hk51, own51x⟩ := app_one (f := Acc.cells) (xs := (newX fs i)) (x := (Acc.mk x29 0)) (A := A2) (cap := cap2) hap (fun x _ => Acc.len x) (Acc.len _)
   have own51 : ∀ q, inA A51 q → w13.heap.size ≤ q := fun q hq => by rcases own51x q hq with h | h; exact ow2 q h; (show w13.heap.size ≤ q; omega)
   refine ⟨Keep.fresh K49 hk51 (by intro i hi hs; have h1 := ow2 i hs; have h2 := lt2 i hs; show i ≠ b13 ∧ i ≠ b20; omega), ?_⟩
   have K52 := Keep.fresh K49 hk51 (by intro i hi hs; have h1 := ow2 i hs; have h2 := lt2 i hs; show i ≠ b13 ∧ i ≠ b20; omega)
   have hsz53 := Keep.size hk51
   replace hl2 := hl2.keep hk51 (fun hs => by have h1 := ow2 _ hs; have h2 := lt2 _ hs; omega)
   replace hk17 := Keep.fresh hk17 hk51 (by intro i hi hs; first | exact hs | (exfalso; have h1 := ow2 i hs; have h2 := lt2 i hs; omega) | (have h1 := ow2 i hs; have h2 := lt2 i hs; show _ ∨ _; omega))
   have lt51 := SlT.lt hA51
   refine Gn [10] [0, 4, 13, 37, 39] <| GI_final 10 (by kernel_rfl) (by kernel_rfl) <| St_ 0 (.slice A51 (((newX fs i) ++ [Acc.mk x29 0]).length) cap51) hl2 ?_
   intro w54 hb13_57 hk55 hz56
   replace hb13_57 : Blk w54 b13 [.slice A51 (((newX fs i) ++ [Acc.mk x29 0]).length) cap51, pt g6] 106 := hb13_57
   have hsz58 := Keep.size hk55
   replace hA51 := hA51.keep hk55 (fun q hq hs => by have hs : q = b13 := hs; have g0 := own51 q hq; have g1 := lt51 q hq; omega)
   replace hk17 := Keep.fr hk17 hk55
   refine OI_end rfl <| X_block <| X_then <| V_region ?_
   have hw59 : i64.wrap ((i : Int) + 1) = ((i + 1 : Nat) : Int) := wrp
   refine On 1 [0, 4, 40] <| Oq (u := nt (i64.wrap ((i : Int) + 1))) (v := nt ((i + 1 : Nat) : Int)) 40 (by rw [hw59]) <| Os 2 [(0, sl_ b28 o28 fs.length cap),(4, pt b13),(13, nt ((i + 1 : Nat) : Int))] <| OI_end rfl ?_
   have hns : newX fs (i + 1) = newX fs i ++ [Acc.mk x29 0] := (by rw [newX_succ, show (fs[i]?).getD 0 = x29 from by rw [hx30]; rfl])
   exact V_again (k16 - 1) (by omega) [(0, sl_ b28 o28 fs.length cap),(4, pt b13),(13, nt ((i + 1 : Nat) : Int))] rfl ⟨i + 1, A51, cap51, by omega, by rw [hns]; exact hb13_57, by rw [hns]; exact hA51, own51, fun k x hk hx => by rcases Nat.lt_or_ge k i with h9 | h9; exact hokf k x h9 hx; (obtain rfl : k = i := by omega); (rw [hx30] at hx; cases hx; exact hc41), hk17, rfl⟩
  refine Vsk <| V_seq <| Vr <| On 1 [0, 4, 6, 13, 26] <| Lr 0 (nt 0) hb20_25 <| Kq (isAmount_spec 0 _) <| Ose [(0, .slice A fs.length cap),(4, pt b13),(6, pt b20),(13, nt (i : Int)),(29, .bool (!(decide (0 ≤ (0 : Int) ∧ 0 ≤ 1073741824))))] <| V_not (0 ≤ (0 : Int) ∧ 0 ≤ 1073741824) (by kernel_rfl) (fun hc65 => ?_) (fun hc65 => ?_)
  ·
   exact (by omega : False).elim
  refine Vsk <| V_draws (acts [6, 7, 10]) (fun q => q ≠ b13 ∧ q ≠ b20) [[5, 6, 1, 2, 3, 4, 7, 0, 8, 9, 10]] (by kernel_rfl) (by repeat first | exact sure_body (by rintro _ _ (⟨_, _, _, h, _⟩ | ⟨_, h, _⟩) <;> exact ⟨_, h⟩) | refine sure_then ?_ | refine sure_block ?_ | refine sure_join ?_) (by kernel_rfl) ?_
  intro w67 hk66 he68 L hL69
  have hsz70 := Keep.size hk66
  replace hl2 := hl2.k0 hk66
  replace hb20_25 := hb20_25.k0 hk66
  replace hk17 := hk17.tn hk66
  have qhl2 := hl2
  have qhb20_25 := hb20_25
  have K71 : Keep (fun q => q ≠ b13 ∧ q ≠ b20) w67 w67 := Keep.refl _ _
  obtain rfl := List.mem_singleton.1 hL69
  refine Ma 0 [nt 0, nt 0] 2 qhb20_25 nb2 rfl rfl <| GI_slit (E := 93) (zv := .agg #[nt 0, nt 0]) (sz := 2) (by_ := 16) 104 1 #[(0, (Operand.tmp 35))] [.agg #[nt 0, nt 0]] [nt 0, nt 0] (some 36) (by kernel_rfl) (by kernel_rfl) K71 (by kernel_rfl) (by kernel_rfl) (by omega) rfl (by omega) (by intro v hv; simp only [List.mem_cons, List.not_mem_nil, or_false] at hv; rcases hv with rfl <;> rfl) (by kernel_rfl) rfl ?_
  intro b72 w72 e72 hb72 k72 z72 K73
  have hsz74 := Keep.size k72
  replace hl2 := hl2.k0 k72
  replace hA2 := hA2.keep0 (hk66.tr k72)
  replace hk17 := hk17.tn k72
  have hb72lt := hb72.lt
  refine Gn [4, 7, 0, 8, 9, 10] [0, 4, 13, 33, 36] <| Mc 0 (.slice A2 ((newX fs i).length) cap2) qhl2 nb1 rfl <| GI_append (t := 104) (at2 := 104) (E := 93) (E2 := 93) (sz := 2) (by_ := 16) (zv := .agg #[nt 0, nt 0]) (m := (newX fs i).length) (k := 1) (.tmp 34) (.tmp 36) (.slice A2 ((newX fs i).length) cap2) (sl_ b72 0 1 1) (some 37) (by kernel_rfl) (by kernel_rfl) (by kernel_rfl) (by kernel_rfl) (by kernel_rfl) (by kernel_rfl) (by kernel_rfl) (by kernel_rfl) (SlT.slr hA2) (slr_one hb72 (Acc.len (Acc.mk 0 0))) (Acc.one (Acc.mk 0 0)) (by first | omega | (simp only [List.length_nil]; omega)) (by omega) (by first | omega | (simp only [List.length_nil]; omega)) (by omega) ?_
  intro vv9 w75 hap
  obtain ⟨A75, cap75, rfl, hA75, hk75, own75x⟩ := app_one (f := Acc.cells) (xs := (newX fs i)) (x := (Acc.mk 0 0)) (A := A2) (cap := cap2) hap (fun x _ => Acc.len x) (Acc.len _)
  have own75 : ∀ q, inA A75 q → w13.heap.size ≤ q := fun q hq => by rcases own75x q hq with h | h; exact ow2 q h; (show w13.heap.size ≤ q; omega)
  refine ⟨Keep.fresh K73 hk75 (by intro i hi hs; have h1 := ow2 i hs; have h2 := lt2 i hs; show i ≠ b13 ∧ i ≠ b20; omega), ?_⟩
  have K76 := Keep.fresh K73 hk75 (by intro i hi hs; have h1 := ow2 i hs; have h2 := lt2 i hs; show i ≠ b13 ∧ i ≠ b20; omega)
  have hsz77 := Keep.size hk75
  replace hl2 := hl2.keep hk75 (fun hs => by have h1 := ow2 _ hs; have h2 := lt2 _ hs; omega)
  replace hk17 := Keep.fresh hk17 hk75 (by intro i hi hs; first | exact hs | (exfalso; have h1 := ow2 i hs; have h2 := lt2 i hs; omega) | (have h1 := ow2 i hs; have h2 := lt2 i hs; show _ ∨ _; omega))
  have lt75 := SlT.lt hA75
  refine Gn [10] [0, 4, 13, 37, 39] <| GI_final 10 (by kernel_rfl) (by kernel_rfl) <| St_ 0 (.slice A75 (((newX fs i) ++ [Acc.mk 0 0]).length) cap75) hl2 ?_
  intro w78 hb13_81 hk79 hz80
  replace hb13_81 : Blk w78 b13 [.slice A75 (((newX fs i) ++ [Acc.mk 0 0]).length) cap75, pt g6] 106 := hb13_81
  have hsz82 := Keep.size hk79
  replace hA75 := hA75.keep hk79 (fun q hq hs => by have hs : q = b13 := hs; have g0 := own75 q hq; have g1 := lt75 q hq; omega)
  replace hk17 := Keep.fr hk17 hk79
  refine OI_end rfl <| X_block <| X_then <| V_region ?_
  have hw83 : i64.wrap ((i : Int) + 1) = ((i + 1 : Nat) : Int) := wrp
  refine On 1 [0, 4, 40] <| Oq (u := nt (i64.wrap ((i : Int) + 1))) (v := nt ((i + 1 : Nat) : Int)) 40 (by rw [hw83]) <| Os 2 [(0, .slice A fs.length cap),(4, pt b13),(13, nt ((i + 1 : Nat) : Int))] <| OI_end rfl ?_
  have hns : newX fs (i + 1) = newX fs i ++ [Acc.mk 0 0] := (by rw [newX_succ, show (fs[i]?).getD 0 = 0 from by rw [List.getElem?_eq_none (by omega)]; rfl])
  exact V_again (k16 - 1) (by omega) [(0, .slice A fs.length cap),(4, pt b13),(13, nt ((i + 1 : Nat) : Int))] rfl ⟨i + 1, A75, cap75, by omega, by rw [hns]; exact hb13_81, by rw [hns]; exact hA75, own75, fun k x hk hx => by rcases Nat.lt_or_ge k i with h9 | h9; exact hokf k x h9 hx; (obtain rfl : k = i := by omega); (rw [List.getElem?_eq_none (by omega)] at hx; cases hx), hk17, rfl⟩
 refine V_exit <| X_exit_then <| X_exit_then <| X_exit_here <| X_then <| V_seq <| Vr <| On 1 [4, 41] ?_
 obtain rfl : i = 10 := by omega
 have hnn := newX_nn hokf
 have htl := newX_tot hokf
 refine Ok (kL 40 #[(.tmp 41)] #[31]) 40 #[pt b13] (some 42) (issued_at b13 cap2 A2 _ (newX fs 10) _ hl2 hA2 hnn (by omega) (by rw [newX_len]; omega)) ?_
 rintro _ w84 ⟨rfl, hk85⟩
 refine ⟨_, rfl, ?_⟩
 have hsz86 := Keep.size hk85
 replace hl2 := hl2.k0 hk85
 replace hA2 := hA2.keep0 hk85
 replace hK0 := hK0.tn hk85
 replace ho8 := Grd.keep ho8 hk85 nk
 refine Oen [4, 43] <| Vi (tot (newX fs 10) > 1073741824) (fun hc87 => ?_) (fun hc87 => ?_)
 ·
  refine Vs [(2, .pointer none),(3, nt 1)] <| Rt ?_
  exact X_return _ rfl (.inr ⟨fun hh => by have := hh.2.2; omega, rfl, hK0⟩)
 refine Vsk <| Vs [(2, pt b13),(3, nt 0)] <| V_ret ?_
 exact X_return _ rfl (.inl ⟨⟨by omega, okF_all (by omega) hokf, by omega⟩, b13, fun q => w.heap.size ≤ q ∧ q < w84.heap.size, rfl, ⟨⟨newX_len _ _, newX_nn hokf, by omega⟩, ⟨by omega, by omega⟩, fun q hq => hq.2, g6, A2, cap2, F7, ⟨hl2, hA2⟩, ho8, fun q hq => ⟨⟨by have h1 := ow2 q hq; omega, by have h1 := lt2 q hq; omega⟩, by have h1 := ow2 q hq; omega⟩, fun q hq => ⟨⟨by have h1 := own11 q hq; omega, by have h1 := lt12 q hq; omega⟩, by have h1 := lt12 q hq; omega⟩, fun q h1 h2 => by have h3 := ow2 q h1; have h4 := lt12 q h2; omega⟩, hK0, fun q hq => hq.1⟩)
end Go.Al
