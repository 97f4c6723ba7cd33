/-
  Put together out of 15 texts: Walks of package grid. Walks of package grid: slices. Walks of package grid: the grid. Walks of package grid: Set. Walks of package grid: all cells. Walks of package grid: a row, a column. Walks of package grid: a grid with its footprint. Walks of package grid. Walks of
-/
import Derived.Test.YtjjfimbihdoknaaGreatReferQueueB1
open Go.IntKind (i64)
set_option maxRecDepth 10000
namespace Go.Al.GQ
open Go Go.RowKit Go.Proofs
structure Ci where
  a : Int
  b : Int
  v : Rfm
def Ci.cells (c : Ci) : List Value := [nt c.a, nt c.b, nt c.v.state, nt c.v.track, .int .u8 (c.v.sum 0), .int .u8 (c.v.sum 1), .int .u8 (c.v.sum 2), .int .u8 (c.v.sum 3), .int .u8 (c.v.sum 4), .int .u8 (c.v.sum 5), .int .u8 (c.v.sum 6), .int .u8 (c.v.sum 7), .int .u8 (c.v.sum 8), .int .u8 (c.v.sum 9), .int .u8 (c.v.sum 10), .int .u8 (c.v.sum 11), .int .u8 (c.v.sum 12), .int .u8 (c.v.sum 13), .int .u8 (c.v.sum 14), .int .u8 (c.v.sum 15), .int .u8 (c.v.sum 16), .int .u8 (c.v.sum 17), .int .u8 (c.v.sum 18), .int .u8 (c.v.sum 19), .int .u8 (c.v.sum 20), .int .u8 (c.v.sum 21), .int .u8 (c.v.sum 22), .int .u8 (c.v.sum 23), .int .u8 (c.v.sum 24), .int .u8 (c.v.sum 25), .int .u8 (c.v.sum 26), .int .u8 (c.v.sum 27), .int .u8 (c.v.sum 28), .int .u8 (c.v.sum 29), .int .u8 (c.v.sum 30), .int .u8 (c.v.sum 31), nt c.v.after, nt c.v.sub, nt c.v.by_, .bool c.v.put, nt c.v.backer, nt c.v.since, nt c.v.till, nt c.v.stop, nt c.v.t.a, nt c.v.t.n, nt c.v.t.s]
theorem Ci.len (c : Ci) : c.cells.length = 47 := rfl
theorem Ci.one (c : Ci) : ∀ u ∈ c.cells, u.oneCell' = true := one_all' rfl
def ordC (a b : Int) (c : Ci) : Int := orI [cmpI c.a a, cmpI c.b b]
theorem place1_spec (c : Ci) (a b : Int) (w : World) : Calls Tryz.prog 145 #[.agg c.cells.toArray, .agg #[nt a, nt b]] w fun e w' => e = .returned (nt (ordC a b c)) ∧ Keep none_ w w' := by
 have hK0 := Keep.refl none_ w
 refine eV ?_
 refine Vr <| OI_box 183 (.tmp 0) (.agg (Ci.cells c).toArray) (Ci.cells c) (some 2) (by kernel_rfl) (by kernel_rfl) rfl ?_
 intro b1 w1 e1 hb1 k1 z1
 have hsz2 := Keep.size k1
 replace hK0 := hK0.tn k1
 have hb1lt := hb1.lt
 refine Bx 61 [nt a, nt b] ?_
 intro b3 w3 e3 hb3 k3 z3
 have hsz4 := Keep.size k3
 replace hK0 := hK0.tn k3
 have hb3lt := hb3.lt
 refine Oen [2, 3] <| V_seq <| Vd1 (acts [5, 11, 12, 13]) none_ [0, 1, 2, 3, 4, 5, 6, 7, 8, 9, 10, 11, 12, 13, 14] fun w6 hk5 he7 K10 _ => ?_
 replace hb1 := hb1.k0 (k3.tr hk5)
 replace hb3 := hb3.k0 hk5
 replace hK0 := hK0.tn hk5
 have qhb1 := hb1
 have qhb3 := hb3
 refine Gn [2, 3, 4, 5, 6, 7, 8, 9, 10, 11, 12, 13, 14] [2, 3, 6] <| Mr 0 (nt c.a) qhb1 <| Gn [4, 5, 6, 7, 8, 9, 10, 11, 12, 13, 14] [2, 3, 7, 8] <| Mr 0 (nt a) qhb3 <| Hq K10 (compare_spec c.a a _) <| Gn [8, 9, 10, 11, 12, 13, 14] [3, 10, 12] <| Mr 1 (nt c.b) qhb1 <| Gn [10, 11, 12, 13, 14] [10, 13, 14] <| Mr 1 (nt b) qhb3 <| Jq (compare_spec c.b b _) <| GI_slit (E := 3) (zv := nt 0) (sz := 1) (by_ := 8) 72 2 #[(0, (Operand.tmp 10)),(1, (Operand.tmp 16))] [nt (cmpI c.a a), nt (cmpI c.b b)] [nt (cmpI c.a a), nt (cmpI c.b b)] (some 17) (by kernel_rfl) (by kernel_rfl) K10 (by kernel_rfl) (by kernel_rfl) (by omega) rfl (by omega) (by intro v hv; simp only [List.mem_cons, List.not_mem_nil, or_false] at hv; rcases hv with rfl | rfl <;> rfl) (by kernel_rfl) rfl ?_
 intro b13 w13 e13 hb13 k13 z13 K14
 have hsz15 := Keep.size k13
 replace hK0 := hK0.tn k13
 have hb13lt := hb13.lt
 refine Gk0 (kl 146 #[(.tmp 17)] #[72]) 146 #[sl_ b13 0 2 2] (some 18) (or_spec _ 2 [cmpI c.a a, cmpI c.b b] _ (slt_blk hb13 (fun _ => rfl) rfl) (by simp)) ?_
 rintro _ w13 ⟨rfl, rfl⟩
 refine ⟨_, rfl, ?_⟩
 exact Gn [] [4] <| GI_end <| X_then <| Rr (nt (orI [cmpI c.a a, cmpI c.b b])) ⟨rfl, hK0⟩
theorem bsearch_spec (A : Option Addr) (cap F : Nat) (xs : List Ci) (kl : List Value) (ord : Ci → Int) (w : World) (hA : SlT w 47 Ci.cells A cap xs) (hkl : kl.length = 2) (hn : xs.length ≤ 1000000) (hb : bodied Tryz.prog F = true)
    (hF : ∀ x w, Calls Tryz.prog F #[.agg (Ci.cells x).toArray, .agg kl.toArray] w fun e w' => e = .returned (nt (ord x)) ∧ Keep none_ w w') (hm : ∀ (i j : Nat) x y, i ≤ j → xs[i]? = some x → xs[j]? = some y → ord y < 0 → ord x < 0) :
    Calls Tryz.prog 144 #[.slice A xs.length cap, .agg kl.toArray, .func (.func F) #[] #[]] w fun e w' => ∃ (i : Nat) (b : Bool), e = .returned (.tuple #[nt (i : Int), .bool b]) ∧ Keep none_ w w' ∧ i ≤ xs.length ∧ (∀ (j : Nat) y, j < i → xs[j]? = some y → ord y < 0) ∧ (∀ (j : Nat) y, i ≤ j → xs[j]? = some y → ¬ ord y < 0) ∧ b = (match xs[i]? with | some y => decide (ord y = 0) | none => false) := by
 have hK0 := Keep.refl none_ w
 refine eV ?_
 refine Vr <| OI_box 61 (.tmp 1) (.agg kl.toArray) kl (some 4) (by kernel_rfl) (by kernel_rfl) rfl ?_
 intro b1 w1 e1 hb1 k1 z1
 have hsz2 := Keep.size k1
 replace hK0 := hK0.tn k1
 have hb1lt := hb1.lt
 refine On 3 [0, 2, 4] <| Oer <| On 3 [0, 2, 4, 8] <| Oer <| Oen [0, 2, 4, 8, 9, 10] <| V_seq <| V_block <| Vp [(0, .slice A xs.length cap),(2, .func (.func F) #[] #[]),(4, pt b1),(8, nt (xs.length : Int)),(9, nt 0),(10, nt (xs.length : Int))] <| V_loop (fun k wI e => ∃ lo : Nat, ∃ hi : Nat, (k + lo = hi) ∧ (lo ≤ hi) ∧ (hi ≤ xs.length) ∧ (∀ (j : Nat) y, j < lo → xs[j]? = some y → ord y < 0) ∧ (∀ (j : Nat) y, hi ≤ j → xs[j]? = some y → ¬ ord y < 0) ∧ Keep none_ w1 wI ∧ e = [(0, .slice A xs.length cap),(2, .func (.func F) #[] #[]),(4, pt b1),(8, nt (xs.length : Int)),(9, nt (lo : Int)),(10, nt (hi : Int))]) xs.length ⟨0, xs.length, rfl, Nat.zero_le _, Nat.le_refl _, (fun j y hj => absurd hj (Nat.not_lt_zero _)),(fun j y hj hy => absurd (List.getElem?_eq_some_iff.1 hy).1 (by omega)), Keep.refl _ _, rfl⟩ ?_
 rintro k4 w3 _ ⟨lo, hi, hk2, hlo, hhi, hbef, haft, hk5, rfl⟩
 have hsz6 := Keep.size hk5
 replace hb1 := hb1.k0 hk5
 replace hA := hA.keep0 (k1.tr hk5)
 replace hK0 := hK0.tn hk5
 have hzhk5 := Keep.size hk5
 refine V_seq <| Vn [0, 2, 4, 8, 9, 10, 17] <| Vi ((lo : Int) < (hi : Int)) (fun hc7 => ?_) (fun hc7 => ?_)
 ·
  refine Vsk <| V_block <| Vr ?_
  have hw8 : i64.wrap ((lo : Int) + (hi : Int)) = ((lo + hi : Nat) : Int) := wrp
  refine On 3 [0, 2, 4, 8, 9, 10, 20] <| Oq (u := nt (i64.wrap ((lo : Int) + (hi : Int)))) (v := nt ((lo + hi : Nat) : Int)) 20 (by rw [hw8]) ?_
  have hw9 : IntKind.u64.wrap ((lo + hi : Nat) : Int) = ((lo + hi : Nat) : Int) := wrap_u64 (by omega)
  refine On 4 [0, 2, 4, 8, 9, 10, 21] <| Oq (u := .int .u64 (IntKind.u64.wrap ((lo + hi : Nat) : Int))) (v := .int .u64 ((lo + hi : Nat) : Int)) 21 (by rw [hw9]) ?_
  have hw10 : Int.fdiv ((lo + hi : Nat) : Int) (2 ^ 1) = (((lo + hi) / 2 : Nat) : Int) := shr1 _
  refine On 5 [0, 2, 4, 8, 9, 10, 22] <| Oq (u := .int .u64 (Int.fdiv ((lo + hi : Nat) : Int) (2 ^ 1))) (v := .int .u64 (((lo + hi) / 2 : Nat) : Int)) 22 (by rw [hw10]) ?_
  have hw11 : i64.wrap (((lo + hi) / 2 : Nat) : Int) = (((lo + hi) / 2 : Nat) : Int) := wrap64_id (by omega) (by omega)
  refine On 6 [0, 2, 4, 8, 9, 10, 23] <| Oq (u := nt (i64.wrap (((lo + hi) / 2 : Nat) : Int))) (v := nt (((lo + hi) / 2 : Nat) : Int)) 23 (by rw [hw11]) <| Oen [0, 2, 4, 8, 9, 10, 11] <| V_seq <| Vd1 (acts [6]) none_ [0, 1, 2, 3, 4, 5, 6, 7] fun w13 hk12 he14 K17 _ => ?_
  replace hb1 := hb1.k0 hk12
  replace hA := hA.keep0 hk12
  replace hk5 := hk5.tn hk12
  have qhb1 := hb1
  refine Gn [3, 4, 5, 6, 7] [0, 2, 4, 8, 9, 10, 11, 24, 25, 26] ?_
  obtain ⟨b18, o18, L18, T18, rfl, hat18⟩ := SlT.opn hA
  have hb18lt := hat18.blk.lt
  refine Gi (b := b18) (o := o18) (len := xs.length) (cap := cap) (j := (lo + hi) / 2) 183 47 152 .i64 ?_
  obtain ⟨x19, hx20⟩ := exAt (xs := xs) (i := (lo + hi) / 2)
  refine Ma (o18 + ((lo + hi) / 2) * 47) (Ci.cells x19) 47 hat18.blk id (At.elem' hat18 (es_at hx20)) (At.len hat18 (es_at hx20)) <| Ma 0 kl 2 qhb1 id (take_all hkl) hkl <| GI_call0 { callee := (Callee.value (Operand.tmp 24)), args := #[(Operand.tmp 28),(Operand.tmp 29)], argTypes := #[183, 61] } F #[.agg (Ci.cells x19).toArray, .agg kl.toArray] (some 30) (by kernel_rfl) (by kernel_rfl) (by kernel_rfl) (by kernel_rfl) hb (hF x19 _) ?_
  rintro _ w21 ⟨rfl, hk22⟩
  refine ⟨_, rfl, ?_⟩
  have hsz23 := Keep.size hk22
  replace hk5 := hk5.tn hk22
  refine Gn [] [0, 2, 4, 8, 9, 10, 11, 31] <| GI_end <| X_then <| Vi (ord x19 < 0) (fun hc24 => ?_) (fun hc24 => ?_)
  ·
   refine V_region ?_
   have hw25 : i64.wrap ((((lo + hi) / 2 : Nat) : Int) + 1) = (((lo + hi) / 2 + 1 : Nat) : Int) := wrp
   refine On 2 [0, 2, 4, 8, 10, 33] <| Oq (u := nt (i64.wrap ((((lo + hi) / 2 : Nat) : Int) + 1))) (v := nt (((lo + hi) / 2 + 1 : Nat) : Int)) 33 (by rw [hw25]) <| Os 3 [(0, sl_ b18 o18 xs.length cap),(2, .func (.func F) #[] #[]),(4, pt b1),(8, nt (xs.length : Int)),(9, nt (((lo + hi) / 2 + 1 : Nat) : Int)),(10, nt (hi : Int))] <| OI_end rfl <| X_block ?_
   exact V_again (hi - ((lo + hi) / 2 + 1)) (by omega) [(0, sl_ b18 o18 xs.length cap),(2, .func (.func F) #[] #[]),(4, pt b1),(8, nt (xs.length : Int)),(9, nt (((lo + hi) / 2 + 1 : Nat) : Int)),(10, nt (hi : Int))] rfl ⟨(lo + hi) / 2 + 1, hi, by omega, by omega, by omega, fun j y hj hy => hm j ((lo + hi) / 2) y x19 (by omega) hy hx20 hc24, haft, hk5, rfl⟩
  refine V_region <| Os 2 [(0, sl_ b18 o18 xs.length cap),(2, .func (.func F) #[] #[]),(4, pt b1),(8, nt (xs.length : Int)),(9, nt (lo : Int)),(10, nt (((lo + hi) / 2 : Nat) : Int))] <| OI_end rfl <| X_block ?_
  exact V_again ((lo + hi) / 2 - lo) (by omega) [(0, sl_ b18 o18 xs.length cap),(2, .func (.func F) #[] #[]),(4, pt b1),(8, nt (xs.length : Int)),(9, nt (lo : Int)),(10, nt (((lo + hi) / 2 : Nat) : Int))] rfl ⟨lo, (lo + hi) / 2, by omega, by omega, by omega, hbef, fun j y hj hy hlt => hc24 (hm ((lo + hi) / 2) j x19 y (by omega) hx20 hy hlt), hk5, rfl⟩
 refine V_exit <| X_exit_then <| X_exit_then <| X_exit_here <| X_then <| V_seq <| Vd1 (acts [11]) none_ [1, 2, 3, 4, 5, 6, 7, 8, 9, 10, 11, 0, 12, 13, 14, 15] fun w27 hk26 he28 K31 _ => ?_
 replace hb1 := hb1.k0 hk26
 replace hA := hA.keep0 hk26
 replace hK0 := hK0.tn hk26
 have qhb1 := hb1
 refine Gn [5, 6, 7, 8, 9, 10, 11, 0, 12, 13, 14, 15] [0, 2, 4, 9, 39] ?_
 by_cases hg32 : (lo : Int) < (xs.length : Int)
 ·
  refine Et 39 hg32 <| Gn [8, 9, 10, 11, 0, 12, 13, 14, 15] [4, 9, 39, 40, 41, 42] ?_
  obtain ⟨b33, o33, L33, T33, rfl, hat33⟩ := SlT.opn hA
  have hb33lt := hat33.blk.lt
  refine Gi (b := b33) (o := o33) (len := xs.length) (cap := cap) (j := lo) 183 47 152 .i64 ?_
  obtain ⟨x34, hx35⟩ := exAt (xs := xs) (i := lo)
  refine Ma (o33 + lo * 47) (Ci.cells x34) 47 hat33.blk id (At.elem' hat33 (es_at hx35)) (At.len hat33 (es_at hx35)) <| Ma 0 kl 2 qhb1 id (take_all hkl) hkl <| GI_call0 { callee := (Callee.value (Operand.tmp 40)), args := #[(Operand.tmp 44),(Operand.tmp 45)], argTypes := #[183, 61] } F #[.agg (Ci.cells x34).toArray, .agg kl.toArray] (some 46) (by kernel_rfl) (by kernel_rfl) (by kernel_rfl) (by kernel_rfl) hb (hF x34 _) ?_
  rintro _ w36 ⟨rfl, hk37⟩
  refine ⟨_, rfl, ?_⟩
  have hsz38 := Keep.size hk37
  replace hK0 := hK0.tn hk37
  refine Gn [] [6, 7] <| GI_end <| X_then <| V_ret ?_
  have hlh : lo = hi := by omega
  subst hlh
  exact Xr (.tuple #[nt (lo : Int), .bool (decide (ord x34 = 0))]) ⟨lo, _, rfl, hK0, by omega, hbef, haft, (by rw [hx35])⟩
 refine Ef 39 hg32 <| Gn [] [6, 7] <| GI_end <| X_then <| V_ret ?_
 have hlh : lo = hi := by omega
 subst hlh
 exact Xr (.tuple #[nt (lo : Int), .bool false]) ⟨lo, _, rfl, hK0, by omega, hbef, haft, (by rw [List.getElem?_eq_none (by omega)])⟩
end Go.Al.GQ
namespace Go.Al.GQ
open Go Go.RowKit Go.Proofs
theorem clone_nil (w : World) : Calls Tryz.prog 99 #[.slice none 0 0] w fun e w' => e = .returned (.slice none 0 0) ∧ w' = w := by
 refine eV ?_
 refine Vr <| On 1 [0] <| Oe <| V_seq <| Vn [0, 4] <| Vo <| Vs [(2, .slice none 0 0)] <| Rt ?_
 exact X_return _ rfl ⟨rfl, rfl⟩
theorem clone_at (b o cap : Nat) (L : List Value) (T : TypeId) (xs : List Ci) (w : World) (h : At w b o L T 47 cap (xs.map Ci.cells)) (hn : xs.length ≤ 1000000) : Calls Tryz.prog 99 #[sl_ b o xs.length cap] w fun e w' => ∃ A' cap', e = .returned (.slice A' xs.length cap') ∧ SlT w' 47 Ci.cells A' cap' xs ∧ Keep none_ w w' ∧ (∀ k, inA A' k → w.heap.size ≤ k) := by
 have hblt := h.blk.lt
 have hK0 := Keep.refl none_ w
 refine eV ?_
 refine Vr <| On 1 [0] <| Oe <| V_seq <| Vn [0, 4] <| Vf <| Vsk <| Vr <| OI_slit (E := 183) (zv := .agg #[nt 0, nt 0, nt 0, nt 0, .int .u8 0, .int .u8 0, .int .u8 0, .int .u8 0, .int .u8 0, .int .u8 0, .int .u8 0, .int .u8 0, .int .u8 0, .int .u8 0, .int .u8 0, .int .u8 0, .int .u8 0, .int .u8 0, .int .u8 0, .int .u8 0, .int .u8 0, .int .u8 0, .int .u8 0, .int .u8 0, .int .u8 0, .int .u8 0, .int .u8 0, .int .u8 0, .int .u8 0, .int .u8 0, .int .u8 0, .int .u8 0, .int .u8 0, .int .u8 0, .int .u8 0, .int .u8 0, nt 0, nt 0, nt 0, .bool false, nt 0, nt 0, nt 0, nt 0, nt 0, nt 0, nt 0]) (sz := 47) (by_ := 152) 176 0 #[] [] [] (some 5) (by kernel_rfl) (by kernel_rfl) (by kernel_rfl) (by omega) rfl (by omega) (by intro v hv; cases hv) (by kernel_rfl) rfl ?_
 intro b1 w1 e1 hb1 k1 z1
 have hsz2 := Keep.size k1
 replace h := h.k0 k1
 replace hK0 := hK0.tn k1
 have hb1lt := hb1.lt
 refine Os 2 [(5, sl_ b1 0 0 0),(6, sl_ b o xs.length cap)] <| OI_append (t := 176) (at2 := 176) (E := 183) (E2 := 183) (sz := 47) (by_ := 152) (zv := .agg #[nt 0, nt 0, nt 0, nt 0, .int .u8 0, .int .u8 0, .int .u8 0, .int .u8 0, .int .u8 0, .int .u8 0, .int .u8 0, .int .u8 0, .int .u8 0, .int .u8 0, .int .u8 0, .int .u8 0, .int .u8 0, .int .u8 0, .int .u8 0, .int .u8 0, .int .u8 0, .int .u8 0, .int .u8 0, .int .u8 0, .int .u8 0, .int .u8 0, .int .u8 0, .int .u8 0, .int .u8 0, .int .u8 0, .int .u8 0, .int .u8 0, .int .u8 0, .int .u8 0, .int .u8 0, .int .u8 0, nt 0, nt 0, nt 0, .bool false, nt 0, nt 0, nt 0, nt 0, nt 0, nt 0, nt 0]) (m := 0) (k := xs.length) (.tmp 5) (.tmp 6) (sl_ b1 0 0 0) (sl_ b o xs.length cap) (some 7) (by kernel_rfl) (by kernel_rfl) (by kernel_rfl) (by kernel_rfl) (by kernel_rfl) (by kernel_rfl) (by kernel_rfl) (SlT.slr (slt_blk (f := Ci.cells) (xs := []) hb1 Ci.len rfl)) (SlT.slr (At.slt h)) (one_flat Ci.one) (by omega) (by omega) (by omega) (by omega) ?_
 intro v w9 hap
 obtain ⟨A9, cap9, rfl, h9, hin⟩ := SlT.of (xs := xs) hap.holds (by omega) (by simp) (fun x _ => Ci.len x)
 have hk9 : Keep (only b1) w1 w9 := hap.keep
 have hown : ∀ k, inA A9 k → w.heap.size ≤ k := fun k hk => by rcases hap.own k (hin k hk) with h | h; (have h : k = b1 := h; omega); omega
 have hsz3 := Keep.size hk9
 replace hK0 := Keep.fr hK0 hk9
 refine Op_ [(7, .slice A9 (0 + xs.length) cap9)] <| Oq (u := .slice A9 (0 + xs.length) cap9) (v := .slice A9 xs.length cap9) 7 (by rw [Nat.zero_add]) <| Ose [(2, .slice A9 xs.length cap9)] <| V_ret ?_
 exact X_return _ rfl ⟨A9, cap9, rfl, h9, hK0, hown⟩
theorem clone_spec (A : Option Addr) (cap : Nat) (xs : List Ci) (w : World) (hA : SlT w 47 Ci.cells A cap xs) (hn : xs.length ≤ 1000000) : Calls Tryz.prog 99 #[.slice A xs.length cap] w fun e w' => ∃ A' cap', e = .returned (.slice A' xs.length cap') ∧ SlT w' 47 Ci.cells A' cap' xs ∧ Keep none_ w w' ∧ (∀ k, inA A' k → w.heap.size ≤ k) := by
  rcases Nat.eq_zero_or_pos xs.length with h0 | h0
  · obtain rfl := List.length_eq_zero_iff.1 h0
    rcases hA with ⟨rfl, rfl, _⟩ | ⟨b, o, L, T, rfl, h1, h2, h3, h4, h5⟩
    · exact (clone_nil w).mono (by rintro e w' ⟨rfl, rfl⟩; exact ⟨none, 0, rfl, SlT.nil _ _ _, Keep.refl _ _, fun k hk => (inA_none hk).elim⟩)
    · exact clone_at b o cap L T [] w ⟨h1, h2, h3, h4, h5⟩ hn
  · obtain ⟨b, o, L, T, rfl, h⟩ := hA.open_ h0
    exact clone_at b o cap L T xs w h hn
theorem insert_nil (vb : Nat) (x : Ci) (w : World) (hv : Blk w vb (Ci.cells x) 183) : Calls Tryz.prog 100 #[.slice none 0 0, nt 0, sl_ vb 0 1 1] w fun e w' => ∃ A' cap', e = .returned (.slice A' 1 cap') ∧ SlT w' 47 Ci.cells A' cap' [x] ∧ Keep none_ w w' ∧ (∀ k, inA A' k → w.heap.size ≤ k) := by
 have hvblt := hv.lt
 have hK0 := Keep.refl none_ w
 refine eV ?_
 refine Vr <| On 1 [0, 1, 2] <| Oer <| On 2 [0, 1, 2, 10, 11] <| OI_pure (some 12) ((Op.slice 176 (Operand.tmp 10) (some (Operand.tmp 11)) none none)) (by kernel_rfl) (pure_slice (E := 183) (sz := 47) (by_ := 152) (base := none) (len := 0) (cap := 0) (lo := (some (.tmp 11))) (hi := none) (l := 0) (h := 0) (by kernel_rfl) (by kernel_rfl) ⟨.i64, by kernel_rfl⟩ rfl (by omega) (by omega)) <| Op_ [(0, .slice none 0 0),(1, nt 0),(2, sl_ vb 0 1 1)] <| Oer <| On 3 [0, 1, 2, 7] <| Oe <| V_seq <| Vn [0, 1, 2, 7, 16] <| Vf <| Vsk <| Vr <| On 3 [0, 1, 2, 7, 8] <| Oe <| V_seq <| Vn [0, 1, 2, 7, 8, 22] <| Vo <| Vr <| Os 2 [(23, .slice none 0 0),(24, sl_ vb 0 1 1)] <| OI_append (t := 176) (at2 := 176) (E := 183) (E2 := 183) (sz := 47) (by_ := 152) (zv := .agg #[nt 0, nt 0, nt 0, nt 0, .int .u8 0, .int .u8 0, .int .u8 0, .int .u8 0, .int .u8 0, .int .u8 0, .int .u8 0, .int .u8 0, .int .u8 0, .int .u8 0, .int .u8 0, .int .u8 0, .int .u8 0, .int .u8 0, .int .u8 0, .int .u8 0, .int .u8 0, .int .u8 0, .int .u8 0, .int .u8 0, .int .u8 0, .int .u8 0, .int .u8 0, .int .u8 0, .int .u8 0, .int .u8 0, .int .u8 0, .int .u8 0, .int .u8 0, .int .u8 0, .int .u8 0, .int .u8 0, nt 0, nt 0, nt 0, .bool false, nt 0, nt 0, nt 0, nt 0, nt 0, nt 0, nt 0]) (m := 0) (k := 1) (.tmp 23) (.tmp 24) (.slice none 0 0) (sl_ vb 0 1 1) (some 25) (by kernel_rfl) (by kernel_rfl) (by kernel_rfl) (by kernel_rfl) (by kernel_rfl) (by kernel_rfl) (by kernel_rfl) (.inl ⟨rfl, rfl, rfl⟩) (slr_one hv (Ci.len _)) (Ci.one _) (by omega) (by omega) (by omega) (by omega) ?_
 intro v w9 hap
 obtain ⟨A9, cap9, rfl, h9, hin⟩ := SlT.of (xs := [x]) hap.holds rfl (by simp) (fun x _ => Ci.len x)
 have hk9 : Keep none_ w w9 := hap.keep
 have hown : ∀ k, inA A9 k → w.heap.size ≤ k := fun k hk => by rcases hap.own k (hin k hk) with h | h; exact h.elim; exact h
 have hsz1 := Keep.size hk9
 replace hK0 := hK0.tn hk9
 refine Op_ [(25, .slice A9 (0 + 1) cap9)] <| Oq (u := .slice A9 (0 + 1) cap9) (v := .slice A9 1 cap9) 25 (by rw [Nat.zero_add]) <| Ose [(6, .slice A9 1 cap9)] <| Rt ?_
 exact X_return _ rfl ⟨A9, cap9, rfl, h9, hK0, hown⟩
theorem insert_at (b o cap vb i : Nat) (L : List Value) (T : TypeId) (xs : List Ci) (x : Ci) (w : World) (h : At w b o L T 47 cap (xs.map Ci.cells)) (hv : Blk w vb (Ci.cells x) 183) (hne : vb ≠ b) (hi : i ≤ xs.length) (hn : xs.length ≤ 1000000) : Calls Tryz.prog 100 #[sl_ b o xs.length cap, nt (i : Int), sl_ vb 0 1 1] w fun e w' => ∃ A' cap', e = .returned (.slice A' (xs.length + 1) cap') ∧ SlT w' 47 Ci.cells A' cap' (xs.take i ++ x :: xs.drop i) ∧ Keep (only b) w w' ∧ (∀ k, inA A' k → k = b ∨ w.heap.size ≤ k) := by
 have hblt := h.blk.lt
 have hvblt := hv.lt
 have hle : xs.length ≤ cap := by simpa using h.le
 have hK0 : Keep (only b) w w := Keep.refl _ _
 refine eV ?_
 refine Vr <| On 1 [0, 1, 2] <| Oer <| On 2 [0, 1, 2, 10, 11] <| OI_pure (some 12) ((Op.slice 176 (Operand.tmp 10) (some (Operand.tmp 11)) none none)) (by kernel_rfl) (pure_slice (E := 183) (sz := 47) (by_ := 152) (base := (some ⟨b, o, none⟩)) (len := xs.length) (cap := cap) (lo := (some (.tmp 11))) (hi := none) (l := i) (h := xs.length) (by kernel_rfl) (by kernel_rfl) ⟨.i64, by kernel_rfl⟩ rfl (by omega) (by omega)) <| Op_ [(0, sl_ b o xs.length cap),(1, nt (i : Int)),(2, sl_ vb 0 1 1)] <| Oer <| On 3 [0, 1, 2, 7] <| Oe <| V_seq <| Vn [0, 1, 2, 7, 16] <| Vf <| Vsk <| Vr <| On 3 [0, 1, 2, 7, 8] <| Oe <| V_seq <| Vn [0, 1, 2, 7, 8, 22] <| Vi ((i : Int) = (xs.length : Int)) (fun hc1 => ?_) (fun hc1 => ?_)
 ·
  refine Vr <| On 2 [23, 24] ?_
  obtain rfl : i = xs.length := by omega
  refine OI_append (t := 176) (at2 := 176) (E := 183) (E2 := 183) (sz := 47) (by_ := 152) (zv := .agg #[nt 0, nt 0, nt 0, nt 0, .int .u8 0, .int .u8 0, .int .u8 0, .int .u8 0, .int .u8 0, .int .u8 0, .int .u8 0, .int .u8 0, .int .u8 0, .int .u8 0, .int .u8 0, .int .u8 0, .int .u8 0, .int .u8 0, .int .u8 0, .int .u8 0, .int .u8 0, .int .u8 0, .int .u8 0, .int .u8 0, .int .u8 0, .int .u8 0, .int .u8 0, .int .u8 0, .int .u8 0, .int .u8 0, .int .u8 0, .int .u8 0, .int .u8 0, .int .u8 0, .int .u8 0, .int .u8 0, nt 0, nt 0, nt 0, .bool false, nt 0, nt 0, nt 0, nt 0, nt 0, nt 0, nt 0]) (m := xs.length) (k := 1) (.tmp 23) (.tmp 24) (sl_ b o xs.length cap) (sl_ vb 0 1 1) (some 25) (by kernel_rfl) (by kernel_rfl) (by kernel_rfl) (by kernel_rfl) (by kernel_rfl) (by kernel_rfl) (by kernel_rfl) (SlT.slr (At.slt h)) (slr_one hv (Ci.len _)) (Ci.one _) (by omega) (by omega) (by omega) (by omega) ?_
  intro v w9 hap
  obtain ⟨A9, cap9, rfl, h9, hin⟩ := SlT.of (xs := xs.take xs.length ++ x :: xs.drop xs.length) hap.holds (by simp) (by simp) (fun x _ => Ci.len x)
  have hk9 : Keep (only b) w w9 := hap.keep
  have hown : ∀ k, inA A9 k → k = b ∨ w.heap.size ≤ k := fun k hk => hap.own k (hin k hk)
  have hsz2 := Keep.size hk9
  replace hK0 := Keep.fr hK0 hk9
  refine Ose [(6, .slice A9 (xs.length + 1) cap9)] <| Rt ?_
  exact X_return _ rfl ⟨A9, cap9, rfl, h9, hK0, hown⟩
 refine Vsk <| V_seq <| Vr ?_
 have hw3 : i64.wrap ((xs.length : Int) + 1) = ((xs.length + 1 : Nat) : Int) := wrp
 refine On 3 [0, 1, 2, 7, 8, 28] <| Oq (u := nt (i64.wrap ((xs.length : Int) + 1))) (v := nt ((xs.length + 1 : Nat) : Int)) 28 (by rw [hw3]) <| Oen [0, 1, 2, 7, 8, 31] <| Vi (((xs.length + 1 : Nat) : Int) > (cap : Int)) (fun hc4 => ?_) (fun hc4 => ?_)
 ·
  refine Vr <| On 2 [0, 1, 2, 7, 8, 32, 33] <| Ost (base := (some ⟨b, o, none⟩)) (len := xs.length) (cap := cap) (j := i) 183 47 152 ?_
  have hw5 : i64.wrap ((xs.length : Int) + 1) = ((xs.length + 1 : Nat) : Int) := wrp
  refine On 6 [0, 1, 2, 7, 34, 37] <| Oq (u := nt (i64.wrap ((xs.length : Int) + 1))) (v := nt ((xs.length + 1 : Nat) : Int)) 37 (by rw [hw5]) ?_
  have hw6 : i64.wrap (((xs.length + 1 : Nat) : Int) - (i : Int)) = ((xs.length + 1 - i : Nat) : Int) := wrp
  refine On 8 [0, 1, 2, 7, 34, 39] <| Oq (u := nt (i64.wrap (((xs.length + 1 : Nat) : Int) - (i : Int)))) (v := nt ((xs.length + 1 - i : Nat) : Int)) 39 (by rw [hw6]) <| OI_appmake (t := 176) (E := 183) (at2 := 3) (sz := 47) (by_ := 152) (m := i) (k := xs.length + 1 - i) (N := xs.length + 1) (kd := .i64) (zv := .agg #[nt 0, nt 0, nt 0, nt 0, .int .u8 0, .int .u8 0, .int .u8 0, .int .u8 0, .int .u8 0, .int .u8 0, .int .u8 0, .int .u8 0, .int .u8 0, .int .u8 0, .int .u8 0, .int .u8 0, .int .u8 0, .int .u8 0, .int .u8 0, .int .u8 0, .int .u8 0, .int .u8 0, .int .u8 0, .int .u8 0, .int .u8 0, .int .u8 0, .int .u8 0, .int .u8 0, .int .u8 0, .int .u8 0, .int .u8 0, .int .u8 0, .int .u8 0, .int .u8 0, .int .u8 0, .int .u8 0, nt 0, nt 0, nt 0, .bool false, nt 0, nt 0, nt 0, nt 0, nt 0, nt 0, nt 0]) (s := sl_ b o i cap) (base := some ⟨b, o, none⟩) (cap := cap) (.tmp 34) (.tmp 39) (some 40) (by kernel_rfl) (by kernel_rfl) (by kernel_rfl) (by kernel_rfl) (by kernel_rfl) (by kernel_rfl) rfl (At.prefT h hi) (by omega) (by omega) (by omega) (by omega) (by kernel_rfl) (by omega) ?_
  intro b9 nc zs w9 hb9 hnc hzs hB9 hk9 hz9
  have hsz7 := Keep.size hk9
  replace hv := hv.k0 hk9
  replace h := h.k0 hk9
  replace hK0 := hK0.tn hk9
  have hb9lt := hB9.lt
  obtain ⟨g1, g2, g3, g4, g5⟩ := grow_cells (sz := 47) (n := xs.length) (i := i) (nc := nc) (c := Ci.cells x) (zs := zs) (es := xs.map Ci.cells) h.sizes (by simp) hi (by omega) (Ci.len x) hzs
  refine On 10 [0, 1, 2, 7, 9] <| Oer <| On 2 [0, 1, 2, 7, 9, 41, 42] <| Osf (b := b9) (o := 0) (len := xs.length + 1) (cap := nc) (j := i) 183 47 152 <| Os 4 [(0, sl_ b o xs.length cap),(1, nt (i : Int)),(7, nt 1),(9, sl_ b9 0 (xs.length + 1) nc),(43, .slice (some ⟨b9, 0 + i * 47, none⟩) (xs.length + 1 - i) (nc - i)),(44, sl_ vb 0 1 1)] <| OI_turn (some 45) ((Op.call { callee := (Callee.builtin Builtin.copy), args := #[(Operand.tmp 43),(Operand.tmp 44)], argTypes := #[176, 176] })) (by kernel_rfl) (Blk.lt hB9) (copy_run (t := 176) (E := 183) (at2 := 176) (sz := 47) (by_ := 152) (b := b9) (o := 0 + i * 47) (dl := xs.length + 1 - i) (dc := nc - i) (k := 1) (m := 1) (cells := Ci.cells x) (x := (.tmp 43)) (y := (.tmp 44)) (by kernel_rfl) (by kernel_rfl) hB9 (slr_one hv (Ci.len _)) (by omega) (by omega) (fun u hu => Ci.one _ u (List.mem_of_mem_take hu))) ?_
  intro w8 hB9 hk9 hz10
  replace hB9 : Blk w8 b9 (over (((xs.map Ci.cells).take i).flatten ++ zs) (i * 47) (Ci.cells x)) 183 := by rwa [show (Ci.cells x).take (1 * 47) = Ci.cells x from List.take_of_length_le (by rw [Ci.len]; omega), Nat.zero_add] at hB9
  have hsz11 := Keep.size hk9
  replace h := h.k1 hk9
  replace hK0 := Keep.fr hK0 hk9
  refine Oe <| V_seq <| Vd1 (acts [8]) (only b9) [0, 1, 2, 3, 4, 5, 6, 7, 8] fun w13 hk12 he14 K17 _ => ?_
  replace hB9 := hB9.k0 hk12
  replace h := h.k0 hk12
  replace hK0 := hK0.tn hk12
  have hw18 : i64.wrap ((i : Int) + 1) = ((i + 1 : Nat) : Int) := wrp
  refine Gn [4, 5, 6, 7, 8] [0, 1, 9, 46, 49] <| Gq_ (u := nt (i64.wrap ((i : Int) + 1))) (v := nt ((i + 1 : Nat) : Int)) 49 (by rw [hw18]) <| Gsf (b := b9) (o := 0) (len := xs.length + 1) (cap := nc) (j := i + 1) 183 47 152 <| Gs [7, 8] [(9, sl_ b9 0 (xs.length + 1) nc),(50, .slice (some ⟨b9, 0 + (i + 1) * 47, none⟩) (xs.length + 1 - (i + 1)) (nc - (i + 1))),(51, sl_ b o xs.length cap),(52, nt (i : Int))] <| Gsf (b := b) (o := o) (len := xs.length) (cap := cap) (j := i) 183 47 152 <| GI_final 8 (by kernel_rfl) (by kernel_rfl) <| OI_turn (some 54) ((Op.call { callee := (Callee.builtin Builtin.copy), args := #[(Operand.tmp 50),(Operand.tmp 53)], argTypes := #[176, 176] })) (by kernel_rfl) (Blk.lt hB9) (copy_run (t := 176) (E := 183) (at2 := 176) (sz := 47) (by_ := 152) (b := b9) (o := 0 + (i + 1) * 47) (dl := xs.length + 1 - (i + 1)) (dc := nc - (i + 1)) (k := xs.length - i) (m := xs.length - i) (cells := ((xs.map Ci.cells).drop i).flatten) (x := (.tmp 50)) (y := (.tmp 53)) (by kernel_rfl) (by kernel_rfl) hB9 (At.suffT h hi) (by omega) (by omega) (fun u hu => one_flatten Ci.one u (by rw [List.map_drop]; exact List.mem_of_mem_take hu))) ?_
  intro w19 hB9 hk20 hz21
  replace hB9 : Blk w19 b9 (over (over (((xs.map Ci.cells).take i).flatten ++ zs) (i * 47) (Ci.cells x)) ((i + 1) * 47) ((xs.map Ci.cells).drop i).flatten) 183 := by rwa [show ((xs.map Ci.cells).drop i).flatten.take ((xs.length - i) * 47) = ((xs.map Ci.cells).drop i).flatten from List.take_of_length_le (by omega), Nat.zero_add] at hB9
  have hsz22 := Keep.size hk20
  replace hK0 := Keep.fr hK0 hk20
  refine Oer <| Ose [(6, sl_ b9 0 (xs.length + 1) nc)] <| Rt ?_
  exact X_return _ rfl ⟨_, nc, rfl, ins_slt hB9 hi (by omega) (by rw [g3, g4]; omega) (by rw [List.length_map]; exact g2) Ci.len, hK0, fun k hk => .inr (by rw [inA_some hk]; omega)⟩
 refine Vsk <| Vr ?_
 have hw23 : i64.wrap ((xs.length : Int) + 1) = ((xs.length + 1 : Nat) : Int) := wrp
 refine On 4 [1, 2, 7, 8, 56, 59] <| Oq (u := nt (i64.wrap ((xs.length : Int) + 1))) (v := nt ((xs.length + 1 : Nat) : Int)) 59 (by rw [hw23]) <| Ost (base := (some ⟨b, o, none⟩)) (len := xs.length) (cap := cap) (j := xs.length + 1) 183 47 152 <| On 6 [0, 1, 2, 7, 8] <| Oe <| V_seq <| Vr ?_
 have hw24 : i64.wrap ((i : Int) + 1) = ((i + 1 : Nat) : Int) := wrp
 refine Os 5 [(0, sl_ b o (xs.length + 1) cap),(1, nt (i : Int)),(2, sl_ vb 0 1 1),(7, nt 1),(8, nt (xs.length : Int)),(61, sl_ vb 0 1 1),(62, sl_ b o (xs.length + 1) cap),(65, nt (i64.wrap ((i : Int) + 1)))] <| Oq (u := nt (i64.wrap ((i : Int) + 1))) (v := nt ((i + 1 : Nat) : Int)) 65 (by rw [hw24]) <| Osf (b := b) (o := o) (len := xs.length + 1) (cap := cap) (j := i + 1) 183 47 152 <| OI_value (d := some 67) (op := (Op.call (kl 148 #[(.tmp 61),(.tmp 66)] #[176, 176]))) (v := .bool false) (by kernel_rfl) (overlaps_run (f := 148) (fn := Tryz.f148) (tS := 176) (tR := 4) (E := 183) (sz := 47) (by_ := 152) (vb := vb) (vo := 0) (b := b) (o := o + (i + 1) * 47) (la := 1) (ca := 1) (lb := xs.length + 1 - (i + 1)) (cb := cap - (i + 1)) rfl (by kernel_rfl) (by kernel_rfl) (by kernel_rfl) (by kernel_rfl) (by kernel_rfl) (by kernel_rfl) hne hv (At.blk h) (by intro hL; have := h.room; rw [hL] at this; simp at this; omega)) <| Oen [0, 1, 2, 7, 8, 68] <| Vo <| V_seq <| Vd1 (acts [8]) (only b) [0, 1, 2, 3, 4, 5, 6, 7, 8] fun w26 hk25 he27 K30 _ => ?_
 replace hv := hv.k0 hk25
 replace h := h.k0 hk25
 replace hK0 := hK0.tn hk25
 have hw31 : i64.wrap ((i : Int) + 1) = ((i + 1 : Nat) : Int) := wrp
 refine Gn [4, 5, 6, 7, 8] [0, 1, 2, 69, 72] <| Gq_ (u := nt (i64.wrap ((i : Int) + 1))) (v := nt ((i + 1 : Nat) : Int)) 72 (by rw [hw31]) <| Gsf (b := b) (o := o) (len := xs.length + 1) (cap := cap) (j := i + 1) 183 47 152 <| Gs [7, 8] [(0, sl_ b o (xs.length + 1) cap),(1, nt (i : Int)),(2, sl_ vb 0 1 1),(73, .slice (some ⟨b, o + (i + 1) * 47, none⟩) (xs.length + 1 - (i + 1)) (cap - (i + 1))),(74, sl_ b o (xs.length + 1) cap),(75, nt (i : Int))] <| Gsf (b := b) (o := o) (len := xs.length + 1) (cap := cap) (j := i) 183 47 152 <| GI_final 8 (by kernel_rfl) (by kernel_rfl) ?_
 obtain ⟨g1, g2, g3⟩ := ins_cells (i := i) (c := Ci.cells x) h (by simp; omega) (by simp; omega) (Ci.len x)
 have hdc := h.dropcells (i := i)
 have hroom := h.room
 rw [List.length_map] at g1 g2 g3 hdc
 have hdl : ((L.drop (o + i * 47)).take ((xs.length + 1 - i) * 47)).take ((xs.length - i) * 47) = (L.drop (o + i * 47)).take ((xs.length - i) * 47) := by rw [List.take_take, Nat.min_eq_left (by omega)]
 refine OI_turn (some 77) ((Op.call { callee := (Callee.builtin Builtin.copy), args := #[(Operand.tmp 73),(Operand.tmp 76)], argTypes := #[176, 176] })) (by kernel_rfl) (Blk.lt (At.blk h)) (copy_run (t := 176) (E := 183) (at2 := 176) (sz := 47) (by_ := 152) (b := b) (o := o + (i + 1) * 47) (dl := xs.length + 1 - (i + 1)) (dc := cap - (i + 1)) (k := xs.length + 1 - i) (m := xs.length - i) (cells := (L.drop (o + i * 47)).take ((xs.length + 1 - i) * 47)) (x := (.tmp 73)) (y := (.tmp 76)) (by kernel_rfl) (by kernel_rfl) (At.blk h) (slr_blk (At.blk h) (by omega) (by omega)) (by omega) (by omega) (fun u hu => one_flatten (xs := xs.drop i) Ci.one u (by rw [List.map_drop, ← hdc, ← hdl]; exact hu))) ?_
 intro w32 hB hk33 hz34
 replace hB : Blk w32 b (over L (o + (i + 1) * 47) ((L.drop (o + i * 47)).take ((xs.length - i) * 47))) T := by rwa [hdl] at hB
 have hsz35 := Keep.size hk33
 replace hv := hv.k1 hk33
 replace hK0 := Keep.fr hK0 hk33
 refine Oer <| On 2 [0, 2, 78, 79] <| Osf (b := b) (o := o) (len := xs.length + 1) (cap := cap) (j := i) 183 47 152 <| Os 4 [(0, sl_ b o (xs.length + 1) cap),(80, .slice (some ⟨b, o + i * 47, none⟩) (xs.length + 1 - i) (cap - i)),(81, sl_ vb 0 1 1)] <| OI_turn (some 82) ((Op.call { callee := (Callee.builtin Builtin.copy), args := #[(Operand.tmp 80),(Operand.tmp 81)], argTypes := #[176, 176] })) (by kernel_rfl) (Blk.lt hB) (copy_run (t := 176) (E := 183) (at2 := 176) (sz := 47) (by_ := 152) (b := b) (o := o + i * 47) (dl := xs.length + 1 - i) (dc := cap - i) (k := 1) (m := 1) (cells := Ci.cells x) (x := (.tmp 80)) (y := (.tmp 81)) (by kernel_rfl) (by kernel_rfl) hB (slr_one hv (Ci.len _)) (by omega) (by omega) (fun u hu => Ci.one _ u (List.mem_of_mem_take hu))) ?_
 intro w36 hB hk37 hz38
 replace hB : Blk w36 b (over (over L (o + (i + 1) * 47) ((L.drop (o + i * 47)).take ((xs.length - i) * 47))) (o + i * 47) (Ci.cells x)) T := by rwa [show (Ci.cells x).take (1 * 47) = Ci.cells x from List.take_of_length_le (by rw [Ci.len]; omega)] at hB
 have hsz39 := Keep.size hk37
 replace hK0 := Keep.fr hK0 hk37
 refine Oer <| Ose [(6, sl_ b o (xs.length + 1) cap)] <| Rt ?_
 exact X_return _ rfl ⟨_, cap, rfl, ins_slt hB hi (by omega) (by rw [g3]; omega) (by rw [List.length_map]; exact g2) Ci.len, hK0, fun k hk => .inl (inA_some hk)⟩
theorem insert_spec (A : Option Addr) (cap vb i : Nat) (xs : List Ci) (x : Ci) (w : World) (hA : SlT w 47 Ci.cells A cap xs) (hv : Blk w vb (Ci.cells x) 183) (hne : ¬ inA A vb) (hi : i ≤ xs.length) (hn : xs.length ≤ 1000000) : Calls Tryz.prog 100 #[.slice A xs.length cap, nt (i : Int), sl_ vb 0 1 1] w fun e w' => ∃ A' cap', e = .returned (.slice A' (xs.length + 1) cap') ∧ SlT w' 47 Ci.cells A' cap' (xs.take i ++ x :: xs.drop i) ∧ Keep (inA A) w w' ∧ (∀ k, inA A' k → inA A k ∨ w.heap.size ≤ k) := by
  rcases hA with ⟨rfl, rfl, h0⟩ | ⟨b, o, L, T, rfl, h1, h2, h3, h4, h5⟩
  · obtain rfl : xs = [] := by simpa using h0
    obtain rfl : i = 0 := by simpa using hi
    exact (insert_nil vb x w hv).mono (by rintro e w' ⟨A', cap', rfl, h1, h2, h3⟩; exact ⟨A', cap', rfl, h1, h2.ofNone, fun k hk => .inr (h3 k hk)⟩)
  · exact (insert_at b o cap vb i L T xs x w ⟨h1, h2, h3, h4, h5⟩ hv (fun h => hne ⟨_, rfl, h⟩) hi hn).mono (by
      rintro e w' ⟨A', cap', rfl, h1, h2, h3⟩
      exact ⟨A', cap', rfl, h1, h2.mono (fun k _ hk => ⟨_, rfl, hk⟩), fun k hk => (h3 k hk).imp (fun h => ⟨_, rfl, h⟩) id⟩)
end Go.Al.GQ
namespace Go.Al.GQ
open Go Go.RowKit Go.Proofs
def ltC (a b a' b' : Int) : Prop := a < a' ∨ (a = a' ∧ b < b')
instance (a b a' b' : Int) : Decidable (ltC a b a' b') := by unfold ltC; infer_instance
theorem ordC_neg (a b : Int) (c : Ci) : ordC a b c < 0 ↔ ltC c.a c.b a b := by
  unfold ordC ltC
  simp only [orI, cmpI]
  rcases Int.lt_trichotomy c.a a with h1 | h1 | h1 <;> rcases Int.lt_trichotomy c.b b with h2 | h2 | h2 <;> simp_all <;> (repeat' split) <;> omega
theorem ordC_zero (a b : Int) (c : Ci) : ordC a b c = 0 ↔ c.a = a ∧ c.b = b := by
  unfold ordC
  simp only [orI, cmpI]
  rcases Int.lt_trichotomy c.a a with h1 | h1 | h1 <;> rcases Int.lt_trichotomy c.b b with h2 | h2 | h2 <;> simp_all <;> (repeat' split) <;> omega
theorem ltC_trans {a b c d e f : Int} (h : ltC a b c d) (k : ltC c d e f) : ltC a b e f := by unfold ltC at *; omega
def Srt (cs : List Ci) : Prop := cs.Pairwise fun x y => ltC x.a x.b y.a y.b
theorem Srt.mono {cs : List Ci} (h : Srt cs) (a b : Int) (i j : Nat) (x y : Ci) (hij : i ≤ j) (hx : cs[i]? = some x) (hy : cs[j]? = some y) (hlt : ordC a b y < 0) : ordC a b x < 0 := by
  rw [ordC_neg] at *
  rcases Nat.lt_or_eq_of_le hij with hij | rfl
  · obtain ⟨h1, rfl⟩ := List.getElem?_eq_some_iff.1 hx
    obtain ⟨h2, rfl⟩ := List.getElem?_eq_some_iff.1 hy
    exact ltC_trans (List.pairwise_iff_getElem.1 h i j h1 h2 hij) hlt
  · rw [hx] at hy; cases hy; exact hlt
structure GrAt (w : World) (g : Nat) (A : Option Addr) (cap : Nat) (cs : List Ci) : Prop where
  blk : Blk w g [.slice A cs.length cap] 178
  sl : SlT w 47 Ci.cells A cap cs
  off : ¬ inA A g
def Gr (D : Nat → Prop) (w : World) (g : Nat) (cs : List Ci) : Prop := Srt cs ∧ cs.length ≤ 100000 ∧ ∃ A cap, GrAt w g A cap cs ∧ ∀ k, inA A k → D k
theorem place_spec (g cap : Nat) (A : Option Addr) (cs : List Ci) (a b : Int) (w : World) (h : GrAt w g A cap cs) (hs : Srt cs) (hn : cs.length ≤ 100000) : Calls Tryz.prog 98 #[pt g, nt a, nt b] w fun e w' => ∃ (i : Nat) (ok : Bool), e = .returned (.tuple #[nt (i : Int), .bool ok]) ∧ Keep none_ w w' ∧ i ≤ cs.length ∧ (∀ (j : Nat) y, j < i → cs[j]? = some y → ordC a b y < 0) ∧ (∀ (j : Nat) y, i ≤ j → cs[j]? = some y → ¬ ordC a b y < 0) ∧ ok = (match cs[i]? with | some y => decide (ordC a b y = 0) | none => false) := by
 have hg := h.blk
 have hA := h.sl
 have hglt := hg.lt
 have hK0 := Keep.refl none_ w
 refine eV ?_
 refine Vr <| On 2 [0, 1, 2] <| Oer <| On 3 [1, 2, 10] <| Lr 0 (.slice A cs.length cap) hg <| On 7 [11, 14] <| Kg (bsearch_spec A cap 145 cs [nt a, nt b] (ordC a b) _ hA rfl (by omega) (by kernel_rfl) (fun c w => place1_spec c a b w) (Srt.mono hs a b)) ?_
 rintro _ w1 ⟨i, bb, rfl, hk2, hi, hbef, haft, hbb⟩
 refine ⟨_, rfl, ?_⟩
 have hsz3 := Keep.size hk2
 replace hK0 := hK0.tn hk2
 refine Ose [(6, nt (i : Int)),(7, .bool bb)] <| V_ret ?_
 exact X_return _ rfl ⟨i, bb, rfl, hK0, hi, hbef, haft, hbb⟩
theorem new_spec (D : Nat → Prop) (w : World) : Calls Tryz.prog 83 #[] w fun e w' => ∃ g, e = .returned (pt g) ∧ Gr D w' g [] ∧ Keep none_ w w' ∧ w.heap.size ≤ g := by
 have hK0 := Keep.refl none_ w
 refine eV ?_
 refine Vr <| On 1 [] <| Oer <| On 1 [1] <| Bx 178 [.slice none 0 0] ?_
 intro b1 w1 e1 hb1 k1 z1
 have hsz2 := Keep.size k1
 replace hK0 := hK0.tn k1
 have hb1lt := hb1.lt
 refine Ose [(0, pt b1)] <| V_ret ?_
 exact X_return _ rfl ⟨_, rfl, ⟨List.Pairwise.nil, by simp, none, 0, ⟨hb1, SlT.nil _ _ _, fun h => inA_none h⟩, fun k hk => (inA_none hk).elim⟩, hK0, by omega⟩
theorem len_spec (D : Nat → Prop) (g : Nat) (cs : List Ci) (w : World) (h : Gr D w g cs) : Calls Tryz.prog 41 #[pt g] w fun e w' => e = .returned (nt (cs.length : Int)) ∧ w' = w := by
 obtain ⟨_, _, A, cap, h, _⟩ := h
 have hg := h.blk
 have hA := h.sl
 have hglt := hg.lt
 refine eV ?_
 refine Vr <| On 1 [0] <| Oe <| V_seq <| Vn [0, 4] <| Vf <| Vsk <| Vr <| On 3 [7] <| Lr 0 (.slice A cs.length cap) hg <| Ose [(2, nt (cs.length : Int))] <| V_ret ?_
 exact X_return _ rfl ⟨rfl, rfl⟩
def getC (a b : Int) : List Ci → Option Rfm
  | [] => none
  | x :: l => if x.a = a ∧ x.b = b then some x.v else getC a b l
def setC (a b : Int) (v : Rfm) : List Ci → List Ci
  | [] => [⟨a, b, v⟩]
  | x :: l => if x.a = a ∧ x.b = b then ⟨a, b, v⟩ :: l else if ltC x.a x.b a b then x :: setC a b v l else ⟨a, b, v⟩ :: x :: l
def delC (a b : Int) : List Ci → List Ci
  | [] => []
  | x :: l => if x.a = a ∧ x.b = b then l else x :: delC a b l
theorem none_later {a b : Int} : ∀ {l : List Ci}, (∀ y ∈ l, ltC a b y.a y.b) → getC a b l = none ∧ delC a b l = l
  | [], _ => ⟨rfl, rfl⟩
  | y :: l, h => by
    have hy := h y (List.mem_cons_self ..)
    have hne : ¬ (y.a = a ∧ y.b = b) := by unfold ltC at hy; omega
    obtain ⟨h1, h2⟩ := none_later (fun z hz => h z (List.mem_cons_of_mem _ hz))
    exact ⟨by simp only [getC, if_neg hne, h1], by simp only [delC, if_neg hne, h2]⟩
theorem place_at {a b : Int} : ∀ (cs : List Ci) (i : Nat), Srt cs → i ≤ cs.length → (∀ (j : Nat) y, j < i → cs[j]? = some y → ordC a b y < 0) → (∀ (j : Nat) y, i ≤ j → cs[j]? = some y → ¬ ordC a b y < 0) →
    (∃ y, cs[i]? = some y ∧ ordC a b y = 0 ∧ y.a = a ∧ y.b = b ∧ getC a b cs = some y.v ∧ (∀ v, cs.set i ⟨a, b, v⟩ = setC a b v cs) ∧ cs.take i ++ cs.drop (i + 1) = delC a b cs) ∨
    ((∀ y, cs[i]? = some y → ordC a b y ≠ 0) ∧ getC a b cs = none ∧ (∀ v, cs.take i ++ ⟨a, b, v⟩ :: cs.drop i = setC a b v cs) ∧ delC a b cs = cs)
  | [], i, _, hi, _, _ => by
    obtain rfl : i = 0 := by simpa using hi
    right; exact ⟨fun y hy => by simp at hy, rfl, fun v => rfl, rfl⟩
  | x :: l, 0, hs, _, _, h2 => by
    have hx := h2 0 x (Nat.le_refl _) rfl
    have hs := List.pairwise_cons.1 hs
    by_cases h0 : ordC a b x = 0
    · left
      have he := (ordC_zero a b x).1 h0
      exact ⟨x, rfl, h0, he.1, he.2, by simp only [getC, if_pos he], fun v => by simp only [List.set_cons_zero, setC, if_pos he], by simp only [delC, if_pos he]; simp⟩
    · right
      have hne : ¬ (x.a = a ∧ x.b = b) := fun h => h0 ((ordC_zero a b x).2 h)
      have hnl : ¬ ltC x.a x.b a b := fun h => hx ((ordC_neg a b x).2 h)
      have hgt : ltC a b x.a x.b := by unfold ltC at *; omega
      obtain ⟨h3, h4⟩ := none_later (a := a) (b := b) (l := l) (fun y hy => ltC_trans hgt (hs.1 y hy))
      refine ⟨fun y hy => by simp at hy; subst hy; exact h0, by simp only [getC, if_neg hne, h3], fun v => by simp only [setC, if_neg hne, if_neg hnl]; simp, by simp only [delC, if_neg hne, h4]⟩
  | x :: l, i + 1, hs, hi, h1, h2 => by
    have hx := h1 0 x (Nat.succ_pos _) rfl
    have hlt := (ordC_neg a b x).1 hx
    have hne : ¬ (x.a = a ∧ x.b = b) := by unfold ltC at hlt; omega
    have hs := List.pairwise_cons.1 hs
    rcases place_at l i hs.2 (by simpa using hi) (fun j y hj hy => h1 (j + 1) y (by omega) (by simpa using hy)) (fun j y hj hy => h2 (j + 1) y (by omega) (by simpa using hy)) with ⟨y, g1, g2, g3, g4, g5, g6, g7⟩ | ⟨g1, g2, g3, g4⟩
    · left; exact ⟨y, by simpa using g1, g2, g3, g4, by simp only [getC, if_neg hne, g5], fun v => by simp only [List.set_cons_succ, setC, if_neg hne, if_pos hlt, g6], by simp only [delC, if_neg hne, ← g7]; simp⟩
    · right; exact ⟨fun y hy => g1 y (by simpa using hy), by simp only [getC, if_neg hne, g2], fun v => by simp only [setC, if_neg hne, if_pos hlt, ← g3 v]; simp, by simp only [delC, if_neg hne, g4]⟩
theorem get_spec (D : Nat → Prop) (g : Nat) (cs : List Ci) (a b : Int) (w : World) (h : Gr D w g cs) : Calls Tryz.prog 53 #[pt g, nt a, nt b] w fun e w' => e = .returned (.tuple #[.agg (Rfm.cells ((getC a b cs).getD Rfm.zero)).toArray, .bool (getC a b cs).isSome]) ∧ Keep none_ w w' := by
 obtain ⟨hs, hlen, A, cap, h, _⟩ := h
 have hgA := h.off
 have hg := h.blk
 have hA := h.sl
 have hglt := hg.lt
 have hltA := SlT.lt hA
 have hK0 := Keep.refl none_ w
 refine enterM Tryz.func53 rfl [pt g, nt a, nt b] 30 rfl rfl rfl ?_
 refine Vp [(0, pt g),(1, nt a),(2, nt b)] <| Vr <| Alc_ 57 (.agg #[nt 0, nt 0, .int .u8 0, .int .u8 0, .int .u8 0, .int .u8 0, .int .u8 0, .int .u8 0, .int .u8 0, .int .u8 0, .int .u8 0, .int .u8 0, .int .u8 0, .int .u8 0, .int .u8 0, .int .u8 0, .int .u8 0, .int .u8 0, .int .u8 0, .int .u8 0, .int .u8 0, .int .u8 0, .int .u8 0, .int .u8 0, .int .u8 0, .int .u8 0, .int .u8 0, .int .u8 0, .int .u8 0, .int .u8 0, .int .u8 0, .int .u8 0, .int .u8 0, .int .u8 0, nt 0, nt 0, nt 0, .bool false, nt 0, nt 0, nt 0, nt 0, nt 0, nt 0, nt 0]) [nt 0, nt 0, .int .u8 0, .int .u8 0, .int .u8 0, .int .u8 0, .int .u8 0, .int .u8 0, .int .u8 0, .int .u8 0, .int .u8 0, .int .u8 0, .int .u8 0, .int .u8 0, .int .u8 0, .int .u8 0, .int .u8 0, .int .u8 0, .int .u8 0, .int .u8 0, .int .u8 0, .int .u8 0, .int .u8 0, .int .u8 0, .int .u8 0, .int .u8 0, .int .u8 0, .int .u8 0, .int .u8 0, .int .u8 0, .int .u8 0, .int .u8 0, .int .u8 0, .int .u8 0, nt 0, nt 0, nt 0, .bool false, nt 0, nt 0, nt 0, nt 0, nt 0, nt 0, nt 0] ?_
 intro b1 w1 e1 hb1 k1 z1
 have hsz2 := Keep.size k1
 replace hg := hg.k0 k1
 replace hA := hA.keep0 k1
 replace hK0 := hK0.tn k1
 have hb1lt := hb1.lt
 refine On 2 [0, 1, 2, 6] <| Oe <| V_seq <| Vn [0, 1, 2, 6, 10] <| Vf <| Vsk <| Vr <| On 3 [0, 6, 13, 14, 15] <| Kg (place_spec g cap A cs a b _ ⟨hg, hA, hgA⟩ hs hlen) ?_
 rintro _ w3 ⟨i, bb, rfl, hk4, hi, hbef, haft, hbb⟩
 refine ⟨_, rfl, ?_⟩
 have hsz5 := Keep.size hk4
 replace hg := hg.k0 hk4
 replace hb1 := hb1.k0 hk4
 replace hA := hA.keep0 hk4
 replace hK0 := hK0.tn hk4
 refine On 9 [0, 6, 7, 8] <| Oe <| V_seq <| Vn [0, 6, 7, 8, 19] <| Vb (bb) (fun hc6 => ?_) (fun hc6 => ?_)
 ·
  rcases place_at cs i hs hi hbef haft with ⟨y, g1, g2, g3, g4, g5, g6, g7⟩ | ⟨g1, _⟩
  rotate_left
  · exact absurd hc6 (by rw [hbb]; split <;> simp_all)
  have hilt := (List.getElem?_eq_some_iff.1 g1).1
  refine V_region <| On 3 [6, 7, 8, 22] <| Lr 0 (.slice A cs.length cap) hg <| On 5 [6, 7, 23, 24] ?_
  obtain ⟨b7, o7, L7, T7, rfl, hat7⟩ := SlT.opn hA
  have hb7lt := hat7.blk.lt
  have hob8 := hltA b7 ⟨_, rfl, rfl⟩
  refine Oi (b := b7) (o := o7) (len := cs.length) (cap := cap) (j := i) (some 25) 176 (.tmp 23) (.tmp 24) 183 47 152 .i64 <| On 7 [6, 7, 26] <| La (o7 + i * 47 + 2) (Rfm.cells y.v) 45 hat7.blk (At.sub hat7 (es_at g1) (by decide) rfl) (Rfm.len _) <| Sg 0 (Rfm.cells y.v) hb1 (Rfm.len _) (Rfm.one _) ?_
  intro w9 hb1_12 hk10 hz11
  replace hb1_12 : Blk w9 b1 (Rfm.cells y.v) 57 := (by rwa [over_whole (by rw [Rfm.len]; rfl)] at hb1_12)
  have hsz13 := Keep.size hk10
  replace hK0 := Keep.fr hK0 hk10
  refine Oer <| La 0 (Rfm.cells y.v) 45 hb1_12 (take_all (Rfm.len _)) (Rfm.len _) <| On 2 [6, 28, 29] <| Sg 0 (Rfm.cells y.v) hb1_12 (Rfm.len _) (Rfm.one _) ?_
  intro w14 hb1_17 hk15 hz16
  replace hb1_17 : Blk w14 b1 (Rfm.cells y.v) 57 := (by rwa [over_whole rfl] at hb1_17)
  have hsz18 := Keep.size hk15
  replace hK0 := Keep.fr hK0 hk15
  refine Ose [(6, pt b1),(7, .bool bb)] <| V_ret ?_
  exact leave0 (.tuple #[.agg (Rfm.cells y.v).toArray, .bool bb]) (.inl rfl) (res_agg_tmp (m := 45) rfl rfl rfl (by kernel_rfl) hb1_17 rfl) ⟨by rw [g5, hc6]; rfl, hK0⟩
 rcases place_at cs i hs hi hbef haft with ⟨y, g1, g2, _⟩ | ⟨g1, g2, g3, g4⟩
 · exact absurd hc6 (by rw [hbb, g1]; simp [g2])
 refine Vsk <| Vr <| La 0 [nt 0, nt 0, .int .u8 0, .int .u8 0, .int .u8 0, .int .u8 0, .int .u8 0, .int .u8 0, .int .u8 0, .int .u8 0, .int .u8 0, .int .u8 0, .int .u8 0, .int .u8 0, .int .u8 0, .int .u8 0, .int .u8 0, .int .u8 0, .int .u8 0, .int .u8 0, .int .u8 0, .int .u8 0, .int .u8 0, .int .u8 0, .int .u8 0, .int .u8 0, .int .u8 0, .int .u8 0, .int .u8 0, .int .u8 0, .int .u8 0, .int .u8 0, .int .u8 0, .int .u8 0, nt 0, nt 0, nt 0, .bool false, nt 0, nt 0, nt 0, nt 0, nt 0, nt 0, nt 0] 45 hb1 rfl rfl <| On 2 [6, 28, 29] <| OI_set (m := 45) (kd := true) 57 (.tmp 6) (.tmp 28) 0 (.agg #[nt 0, nt 0, .int .u8 0, .int .u8 0, .int .u8 0, .int .u8 0, .int .u8 0, .int .u8 0, .int .u8 0, .int .u8 0, .int .u8 0, .int .u8 0, .int .u8 0, .int .u8 0, .int .u8 0, .int .u8 0, .int .u8 0, .int .u8 0, .int .u8 0, .int .u8 0, .int .u8 0, .int .u8 0, .int .u8 0, .int .u8 0, .int .u8 0, .int .u8 0, .int .u8 0, .int .u8 0, .int .u8 0, .int .u8 0, .int .u8 0, .int .u8 0, .int .u8 0, .int .u8 0, nt 0, nt 0, nt 0, .bool false, nt 0, nt 0, nt 0, nt 0, nt 0, nt 0, nt 0]) [nt 0, nt 0, .int .u8 0, .int .u8 0, .int .u8 0, .int .u8 0, .int .u8 0, .int .u8 0, .int .u8 0, .int .u8 0, .int .u8 0, .int .u8 0, .int .u8 0, .int .u8 0, .int .u8 0, .int .u8 0, .int .u8 0, .int .u8 0, .int .u8 0, .int .u8 0, .int .u8 0, .int .u8 0, .int .u8 0, .int .u8 0, .int .u8 0, .int .u8 0, .int .u8 0, .int .u8 0, .int .u8 0, .int .u8 0, .int .u8 0, .int .u8 0, .int .u8 0, .int .u8 0, nt 0, nt 0, nt 0, .bool false, nt 0, nt 0, nt 0, nt 0, nt 0, nt 0, nt 0] none (by kernel_rfl) (by kernel_rfl) (by kernel_rfl) hb1 (by kernel_rfl) (by kernel_rfl) (by kernel_rfl) (Nat.le_of_ble_eq_true (by kernel_rfl)) (by simp [Value.oneCell']) ?_
 intro w19 hb1_22 hk20 hz21
 replace hb1_22 : Blk w19 b1 [nt 0, nt 0, .int .u8 0, .int .u8 0, .int .u8 0, .int .u8 0, .int .u8 0, .int .u8 0, .int .u8 0, .int .u8 0, .int .u8 0, .int .u8 0, .int .u8 0, .int .u8 0, .int .u8 0, .int .u8 0, .int .u8 0, .int .u8 0, .int .u8 0, .int .u8 0, .int .u8 0, .int .u8 0, .int .u8 0, .int .u8 0, .int .u8 0, .int .u8 0, .int .u8 0, .int .u8 0, .int .u8 0, .int .u8 0, .int .u8 0, .int .u8 0, .int .u8 0, .int .u8 0, nt 0, nt 0, nt 0, .bool false, nt 0, nt 0, nt 0, nt 0, nt 0, nt 0, nt 0] 57 := hb1_22
 have hsz23 := Keep.size hk20
 replace hK0 := Keep.fr hK0 hk20
 refine Ose [(6, pt b1),(7, .bool bb)] <| V_ret ?_
 exact leave0 (.tuple #[.agg [nt 0, nt 0, .int .u8 0, .int .u8 0, .int .u8 0, .int .u8 0, .int .u8 0, .int .u8 0, .int .u8 0, .int .u8 0, .int .u8 0, .int .u8 0, .int .u8 0, .int .u8 0, .int .u8 0, .int .u8 0, .int .u8 0, .int .u8 0, .int .u8 0, .int .u8 0, .int .u8 0, .int .u8 0, .int .u8 0, .int .u8 0, .int .u8 0, .int .u8 0, .int .u8 0, .int .u8 0, .int .u8 0, .int .u8 0, .int .u8 0, .int .u8 0, .int .u8 0, .int .u8 0, nt 0, nt 0, nt 0, .bool false, nt 0, nt 0, nt 0, nt 0, nt 0, nt 0, nt 0].toArray, .bool bb]) (.inl rfl) (res_agg_tmp (m := 45) rfl rfl rfl (by kernel_rfl) hb1_22 rfl) ⟨by rw [g2, hc6]; rfl, hK0⟩
theorem Srt.del {cs : List Ci} (h : Srt cs) (a b : Int) : Srt (delC a b cs) ∧ (delC a b cs).length ≤ cs.length := by
  induction cs with
  | nil => exact ⟨List.Pairwise.nil, Nat.le_refl _⟩
  | cons x l ih =>
    have h := List.pairwise_cons.1 h
    simp only [delC]
    split
    · exact ⟨h.2, by simp⟩
    · obtain ⟨h1, h2⟩ := ih h.2
      refine ⟨List.pairwise_cons.2 ⟨fun y hy => h.1 y ?_, h1⟩, by simpa using h2⟩
      have hsub : ∀ l : List Ci, ∀ y ∈ delC a b l, y ∈ l := by
        intro l
        induction l with
        | nil => intro y hy; exact hy
        | cons z l ih =>
          intro y hy
          simp only [delC] at hy
          split at hy
          · exact List.mem_cons_of_mem _ hy
          · rcases List.mem_cons.1 hy with rfl | hy
            · exact List.mem_cons_self ..
            · exact List.mem_cons_of_mem _ (ih y hy)
      exact hsub l y hy
end Go.Al.GQ
namespace Go.Al.GQ
open Go Go.RowKit Go.Proofs
theorem setC_mem {a b : Int} {v : Rfm} {y : Ci} : ∀ {cs : List Ci}, y ∈ setC a b v cs → (y.a = a ∧ y.b = b) ∨ y ∈ cs
  | [], h => by simp only [setC, List.mem_singleton] at h; subst h; exact .inl ⟨rfl, rfl⟩
  | x :: l, h => by
    simp only [setC] at h
    split at h
    · rcases List.mem_cons.1 h with rfl | h
      · exact .inl ⟨rfl, rfl⟩
      · exact .inr (List.mem_cons_of_mem _ h)
    · split at h
      · rcases List.mem_cons.1 h with rfl | h
        · exact .inr (List.mem_cons_self ..)
        · exact (setC_mem h).imp id (List.mem_cons_of_mem _)
      · rcases List.mem_cons.1 h with rfl | h
        · exact .inl ⟨rfl, rfl⟩
        · exact .inr h
theorem Srt.set {a b : Int} {v : Rfm} : ∀ {cs : List Ci}, Srt cs → Srt (setC a b v cs) ∧ (setC a b v cs).length ≤ cs.length + 1
  | [], _ => ⟨by simp [setC, Srt], by simp [setC]⟩
  | x :: l, h => by
    have h := List.pairwise_cons.1 h
    simp only [setC]
    split
    · rename_i he
      exact ⟨List.pairwise_cons.2 ⟨fun y hy => by have := h.1 y hy; rw [he.1, he.2] at this; exact this, h.2⟩, by simp⟩
    · rename_i he
      split
      · rename_i hlt
        obtain ⟨h1, h2⟩ := Srt.set (a := a) (b := b) (v := v) h.2
        refine ⟨List.pairwise_cons.2 ⟨fun y hy => ?_, h1⟩, by simpa using h2⟩
        rcases setC_mem hy with ⟨e1, e2⟩ | hy
        · rw [e1, e2]; exact hlt
        · exact h.1 y hy
      · rename_i hnl
        have hgt : ltC a b x.a x.b := by unfold ltC at *; omega
        refine ⟨List.pairwise_cons.2 ⟨fun y hy => ?_, List.pairwise_cons.2 h⟩, by simp⟩
        rcases List.mem_cons.1 hy with rfl | hy
        · exact hgt
        · exact ltC_trans hgt (h.1 y hy)
theorem set_spec (D : Nat → Prop) (g : Nat) (cs : List Ci) (a b : Int) (v : Rfm) (w : World) (h : Gr D w g cs) (hD : ∀ k, w.heap.size ≤ k → D k) (hmax : cs.length < 100000) : Calls Tryz.prog 45 #[pt g, nt a, nt b, .agg (Rfm.cells v).toArray] w fun e w' => e = .returned (.tuple #[]) ∧ Gr D w' g (setC a b v cs) ∧ Keep (only g) w w' := by
 obtain ⟨hs, hlen, A, cap, h, hDA⟩ := h
 have hgA := h.off
 have hg := h.blk
 have hA := h.sl
 have hglt := hg.lt
 have hltA := SlT.lt hA
 have hK0 : Keep (only g) w w := Keep.refl _ _
 refine eV ?_
 refine Vr <| OI_box 57 (.tmp 3) (.agg (Rfm.cells v).toArray) (Rfm.cells v) (some 7) (by kernel_rfl) (by kernel_rfl) rfl ?_
 intro b1 w1 e1 hb1 k1 z1
 have hsz2 := Keep.size k1
 replace hg := hg.k0 k1
 replace hA := hA.keep0 k1
 replace hK0 := hK0.tn k1
 have hb1lt := hb1.lt
 refine Oe <| V_seq <| Vn [0, 1, 2, 7, 12] <| Vf <| Vsk <| Vr <| On 3 [0, 1, 2, 7, 14, 15, 16] <| Kg (place_spec g cap A cs a b _ ⟨hg, hA, hgA⟩ hs hlen) ?_
 rintro _ w7 ⟨i, bb, rfl, hk8, hi, hbef, haft, hbb⟩
 refine ⟨_, rfl, ?_⟩
 have hsz9 := Keep.size hk8
 replace hg := hg.k0 hk8
 replace hA := hA.keep0 hk8
 replace hK0 := hK0.tn hk8
 refine On 9 [0, 1, 2, 7, 8, 9] <| Oer <| On 3 [0, 1, 2, 7, 8, 9, 22] <| Lr 0 (.slice A cs.length cap) hg <| Kg (clone_spec A cap cs _ hA (by omega)) ?_
 rintro _ w12 ⟨A9, cap9, rfl, h9, hk13, hown9⟩
 refine ⟨_, rfl, ?_⟩
 have hsz14 := Keep.size hk13
 replace hg := hg.k0 hk13
 replace hb1 := hb1.k0 (hk8.tr hk13)
 replace hK0 := hK0.tn hk13
 have hlt9 := SlT.lt h9
 refine On 6 [0, 1, 2, 7, 8, 9, 10] <| Oe <| V_seq <| Vn [0, 1, 2, 7, 8, 10, 25] <| Vb (bb) (fun hc15 => ?_) (fun hc15 => ?_)
 ·
  rcases place_at cs i hs hi hbef haft with ⟨y, g1, g2, g3, g4, g5, g6, g7⟩ | ⟨g1, _⟩
  rotate_left
  · exact absurd hc15 (by rw [hbb]; split <;> simp_all)
  have hilt := (List.getElem?_eq_some_iff.1 g1).1
  refine V_region <| On 2 [0, 7, 10, 26, 27] <| La 0 (Rfm.cells v) 45 hb1 (take_all (Rfm.len _)) (Rfm.len _) ?_
  obtain ⟨b16, o16, L16, T16, rfl, hat16⟩ := SlT.opn h9
  have hb16lt := hat16.blk.lt
  refine Oi (b := b16) (o := o16) (len := cs.length) (cap := cap9) (j := i) (some 29) 176 (.tmp 26) (.tmp 27) 183 47 152 .i64 <| On 5 [0, 10, 28, 30] <| OI_set (m := 45) (kd := true) 57 (.tmp 30) (.tmp 28) (o16 + i * 47 + 2) (.agg (Rfm.cells v).toArray) (Rfm.cells v) none (by kernel_rfl) (by kernel_rfl) (by kernel_rfl) (At.blk hat16) (by kernel_rfl) (by kernel_rfl) rfl (by have h1 := At.room hat16; have h2 := At.le hat16; rw [List.length_map] at h2; omega) (Rfm.one v) ?_
  intro w8 hn8 hk8 hz8
  have hat8 := At.setN (y := (⟨a, b, v⟩ : Ci)) (k := 2) hat16 g1 (by show 2 + 45 ≤ 47; omega) (by simp [Ci.cells, over, g3, g4, Rfm.cells]) hn8
  have hbge := hown9 b16 ⟨_, rfl, rfl⟩
  have hsz17 := Keep.size hk8
  replace hg := hg.k1 hk8
  replace hK0 := Keep.fr hK0 hk8
  refine Oe <| V_region <| Os 4 [(41, sl_ b16 o16 cs.length cap9),(43, pt g)] <| St_ 0 (sl_ b16 o16 cs.length cap9) hg ?_
  intro w18 hg_21 hk19 hz20
  replace hg_21 : Blk w18 g [sl_ b16 o16 cs.length cap9] 178 := hg_21
  have hsz22 := Keep.size hk19
  replace hat8 := hat8.keep hk19 (by show ¬ (_ = _); omega)
  replace hK0 := Keep.fr hK0 hk19
  refine OI_end rfl ?_
  obtain ⟨hs1, hs2⟩ := Srt.set (a := a) (b := b) (v := v) hs
  have hl : (setC a b v cs).length = cs.length := by rw [← g6 v]; simp
  exact X_end _ rfl ⟨rfl, ⟨hs1, by omega, _, cap9, ⟨by rw [hl]; exact hg_21, by rw [← g6 v]; exact At.slt hat8, fun h => by have := inA_some h; omega⟩, fun k hk => hD k (by have := inA_some hk; omega)⟩, hK0⟩
 rcases place_at cs i hs hi hbef haft with ⟨y, g1, g2, _⟩ | ⟨g1, g2, g3, g4⟩
 · exact absurd hc15 (by rw [hbb, g1]; simp [g2])
 refine V_region <| On 5 [0, 7, 31, 32, 35] <| La 0 (Rfm.cells v) 45 hb1 (take_all (Rfm.len _)) (Rfm.len _) <| On 7 [0, 31, 32, 37] <| OI_slit (E := 183) (zv := .agg #[nt 0, nt 0, nt 0, nt 0, .int .u8 0, .int .u8 0, .int .u8 0, .int .u8 0, .int .u8 0, .int .u8 0, .int .u8 0, .int .u8 0, .int .u8 0, .int .u8 0, .int .u8 0, .int .u8 0, .int .u8 0, .int .u8 0, .int .u8 0, .int .u8 0, .int .u8 0, .int .u8 0, .int .u8 0, .int .u8 0, .int .u8 0, .int .u8 0, .int .u8 0, .int .u8 0, .int .u8 0, .int .u8 0, .int .u8 0, .int .u8 0, .int .u8 0, .int .u8 0, .int .u8 0, .int .u8 0, nt 0, nt 0, nt 0, .bool false, nt 0, nt 0, nt 0, nt 0, nt 0, nt 0, nt 0]) (sz := 47) (by_ := 152) 176 1 #[(0, (Operand.tmp 37))] [.agg #[nt a, nt b, nt v.state, nt v.track, .int .u8 (v.sum 0), .int .u8 (v.sum 1), .int .u8 (v.sum 2), .int .u8 (v.sum 3), .int .u8 (v.sum 4), .int .u8 (v.sum 5), .int .u8 (v.sum 6), .int .u8 (v.sum 7), .int .u8 (v.sum 8), .int .u8 (v.sum 9), .int .u8 (v.sum 10), .int .u8 (v.sum 11), .int .u8 (v.sum 12), .int .u8 (v.sum 13), .int .u8 (v.sum 14), .int .u8 (v.sum 15), .int .u8 (v.sum 16), .int .u8 (v.sum 17), .int .u8 (v.sum 18), .int .u8 (v.sum 19), .int .u8 (v.sum 20), .int .u8 (v.sum 21), .int .u8 (v.sum 22), .int .u8 (v.sum 23), .int .u8 (v.sum 24), .int .u8 (v.sum 25), .int .u8 (v.sum 26), .int .u8 (v.sum 27), .int .u8 (v.sum 28), .int .u8 (v.sum 29), .int .u8 (v.sum 30), .int .u8 (v.sum 31), nt v.after, nt v.sub, nt v.by_, .bool v.put, nt v.backer, nt v.since, nt v.till, nt v.stop, nt v.t.a, nt v.t.n, nt v.t.s]] [nt a, nt b, nt v.state, nt v.track, .int .u8 (v.sum 0), .int .u8 (v.sum 1), .int .u8 (v.sum 2), .int .u8 (v.sum 3), .int .u8 (v.sum 4), .int .u8 (v.sum 5), .int .u8 (v.sum 6), .int .u8 (v.sum 7), .int .u8 (v.sum 8), .int .u8 (v.sum 9), .int .u8 (v.sum 10), .int .u8 (v.sum 11), .int .u8 (v.sum 12), .int .u8 (v.sum 13), .int .u8 (v.sum 14), .int .u8 (v.sum 15), .int .u8 (v.sum 16), .int .u8 (v.sum 17), .int .u8 (v.sum 18), .int .u8 (v.sum 19), .int .u8 (v.sum 20), .int .u8 (v.sum 21), .int .u8 (v.sum 22), .int .u8 (v.sum 23), .int .u8 (v.sum 24), .int .u8 (v.sum 25), .int .u8 (v.sum 26), .int .u8 (v.sum 27), .int .u8 (v.sum 28), .int .u8 (v.sum 29), .int .u8 (v.sum 30), .int .u8 (v.sum 31), nt v.after, nt v.sub, nt v.by_, .bool v.put, nt v.backer, nt v.since, nt v.till, nt v.stop, nt v.t.a, nt v.t.n, nt v.t.s] (some 38) (by kernel_rfl) (by kernel_rfl) (by kernel_rfl) (by omega) rfl (by omega) (by intro v hv; simp only [List.mem_cons, List.not_mem_nil, or_false] at hv; rcases hv with rfl <;> rfl) (by kernel_rfl) rfl ?_
 intro b23 w23 e23 hb23 k23 z23
 have hsz24 := Keep.size k23
 replace hg := hg.k0 k23
 replace h9 := h9.keep0 k23
 replace hK0 := hK0.tn k23
 have hb23lt := hb23.lt
 have hne9 : ¬ inA A9 b23 := fun hs => by have h1 := hlt9 _ hs; have h2 := hown9 _ hs; omega
 refine Kg (insert_spec A9 cap9 b23 i cs ⟨a, b, v⟩ _ h9 hb23 hne9 hi (by omega)) ?_
 rintro _ w25 ⟨A10, cap10, rfl, h10, hk26, hown10⟩
 refine ⟨_, rfl, ?_⟩
 have hsz27 := Keep.size hk26
 replace hg := hg.keep hk26 (fun hs => by have h1 := hlt9 _ hs; have h2 := hown9 _ hs; omega)
 replace hK0 := Keep.fresh hK0 hk26 (by intro i hi hs; exfalso; have h2 := hown9 i hs; omega)
 have hgA10 : ¬ inA A10 g := fun hs => by rcases hown10 _ hs with h | h; (have h2 := hown9 _ h; omega); omega
 refine On 10 [0, 10] <| Oe <| V_region <| Os 4 [(41, .slice A10 (cs.length + 1) cap10),(43, pt g)] <| St_ 0 (.slice A10 (cs.length + 1) cap10) hg ?_
 intro w28 hg_31 hk29 hz30
 replace hg_31 : Blk w28 g [.slice A10 (cs.length + 1) cap10] 178 := hg_31
 have hsz32 := Keep.size hk29
 replace h10 := h10.keep hk29 (fun k hk hs => by have hs : k = g := hs; subst hs; exact hgA10 hk)
 replace hK0 := Keep.fr hK0 hk29
 refine OI_end rfl ?_
 obtain ⟨hs1, hs2⟩ := Srt.set (a := a) (b := b) (v := v) hs
 rw [g3 v] at h10
 have hl : (setC a b v cs).length = cs.length + 1 := by rw [← g3 v]; simp; omega
 exact X_end _ rfl ⟨rfl, ⟨hs1, by omega, A10, cap10, ⟨by rw [hl]; exact hg_31, h10, hgA10⟩, fun k hk => hD k (by rcases hown10 _ hk with h | h; (have h2 := hown9 _ h; omega); omega)⟩, hK0⟩
end Go.Al.GQ
namespace Go.Al.GQ
open Go Go.RowKit Go.Proofs
def encC (cs : List Ci) (k : Nat) : Array Value := match cs[k]? with | some c => #[.agg #[nt c.a, nt c.b], .agg (Rfm.cells c.v).toArray] | none => #[undef, undef]
theorem encC_at {cs : List Ci} {k : Nat} {c : Ci} (h : cs[k]? = some c) : encC cs k = #[.agg #[nt c.a, nt c.b], .agg (Rfm.cells c.v).toArray] := by unfold encC; rw [h]
theorem encC_size (cs : List Ci) (k : Nat) : (encC cs k).size = 2 := by unfold encC; split <;> rfl
theorem cells1_iter (c g cap : Nat) (A : Option Addr) (cs : List Ci) (hn : cs.length ≤ 1000000) : Iter Tryz.prog 202 #[pt c] cs.length (encC cs) (fun W => Blk W c [pt g] 95 ∧ GrAt W g A cap cs) (fun W => SlT W 47 Ci.cells A cap cs) := by
 intro l J Jx w hPre hJ hJx hY hOk h0
 obtain ⟨hc, h⟩ := hPre
 have hg := h.blk
 have hA := h.sl
 have hglt := hg.lt
 have hclt := hc.lt
 show Calls Tryz.prog 202 #[.func (.yield l) #[] #[], pt c] w _
 have hK0 := Keep.refl none_ w
 refine eV ?_
 refine V_seq <| Vr <| Lr 0 (pt g) hc <| Oen [0, 1, 6] <| Vf <| Vsk <| Vr <| Lr 0 (pt g) hc <| On 3 [0, 9] <| Lr 0 (.slice A cs.length cap) hg <| Oen [0, 10, 11, 12] <| V_block ?_
 have hj0 := hJ 0 _ _ h0 (Keep.ofNone hK0)
 refine Vp [(0, .func (.yield l) #[] #[]),(10, .slice A cs.length cap),(11, nt (cs.length : Int)),(12, nt 0)] <| V_loop (fun k wI e => ∃ i : Nat, (k + i = cs.length) ∧ (J i wI) ∧ e = [(0, .func (.yield l) #[] #[]),(10, .slice A cs.length cap),(11, nt (cs.length : Int)),(12, nt (i : Int))]) cs.length ⟨0, rfl, hj0, rfl⟩ ?_
 rintro k2 w1 _ ⟨i, hki, hj, rfl⟩
 have hA := hOk _ _ hj
 have hkh : Keep none_ w1 w1 := Keep.refl _ _
 have hzhkh := Keep.size hkh
 refine Vs [(0, .func (.yield l) #[] #[]),(10, .slice A cs.length cap),(11, nt (cs.length : Int)),(12, nt (i : Int)),(13, .bool (decide ((i : Int) < (cs.length : Int))))] <| V_seq <| Vi ((i : Int) < (cs.length : Int)) (fun hc4 => ?_) (fun hc4 => ?_)
 ·
  refine Vsk <| V_seq <| V_block <| Vr ?_
  obtain ⟨b5, o5, L5, T5, rfl, hat5⟩ := SlT.opn hA
  have hb5lt := hat5.blk.lt
  refine Oi (b := b5) (o := o5) (len := cs.length) (cap := cap) (j := i) (some 14) 176 (.tmp 10) (.tmp 12) 183 47 152 .i64 ?_
  obtain ⟨x6, hx7⟩ := exAt (xs := cs) (i := i)
  refine La (o5 + i * 47) (Ci.cells x6) 47 hat5.blk (At.elem' hat5 (es_at hx7)) (At.len hat5 (es_at hx7)) <| Alc_ 183 (.agg #[nt 0, nt 0, nt 0, nt 0, .int .u8 0, .int .u8 0, .int .u8 0, .int .u8 0, .int .u8 0, .int .u8 0, .int .u8 0, .int .u8 0, .int .u8 0, .int .u8 0, .int .u8 0, .int .u8 0, .int .u8 0, .int .u8 0, .int .u8 0, .int .u8 0, .int .u8 0, .int .u8 0, .int .u8 0, .int .u8 0, .int .u8 0, .int .u8 0, .int .u8 0, .int .u8 0, .int .u8 0, .int .u8 0, .int .u8 0, .int .u8 0, .int .u8 0, .int .u8 0, .int .u8 0, .int .u8 0, nt 0, nt 0, nt 0, .bool false, nt 0, nt 0, nt 0, nt 0, nt 0, nt 0, nt 0]) [nt 0, nt 0, nt 0, nt 0, .int .u8 0, .int .u8 0, .int .u8 0, .int .u8 0, .int .u8 0, .int .u8 0, .int .u8 0, .int .u8 0, .int .u8 0, .int .u8 0, .int .u8 0, .int .u8 0, .int .u8 0, .int .u8 0, .int .u8 0, .int .u8 0, .int .u8 0, .int .u8 0, .int .u8 0, .int .u8 0, .int .u8 0, .int .u8 0, .int .u8 0, .int .u8 0, .int .u8 0, .int .u8 0, .int .u8 0, .int .u8 0, .int .u8 0, .int .u8 0, .int .u8 0, .int .u8 0, nt 0, nt 0, nt 0, .bool false, nt 0, nt 0, nt 0, nt 0, nt 0, nt 0, nt 0] ?_
  intro b8 w8 e8 hb8 k8 z8
  have hsz9 := Keep.size k8
  replace hkh := hkh.tn k8
  have hb8lt := hb8.lt
  refine Sg 0 (Ci.cells x6) hb8 (Ci.len _) (Ci.one _) ?_
  intro w10 hb8_13 hk11 hz12
  replace hb8_13 : Blk w10 b8 (Ci.cells x6) 183 := (by rwa [over_whole (by rw [Ci.len]; rfl)] at hb8_13)
  have hsz14 := Keep.size hk11
  replace hkh := Keep.fr hkh hk11
  refine Oer <| On 2 [0, 4, 10, 11, 12, 16, 17] <| La 0 [nt x6.a, nt x6.b] 2 hb8_13 rfl rfl <| Os 4 [(0, .func (.yield l) #[] #[]),(10, sl_ b5 o5 cs.length cap),(11, nt (cs.length : Int)),(12, nt (i : Int)),(16, .func (.yield l) #[] #[]),(18, .agg #[nt x6.a, nt x6.b]),(19, po_ b8 2)] <| Oa 57 (.tmp 19) 2 [nt x6.v.state, nt x6.v.track, .int .u8 (x6.v.sum 0), .int .u8 (x6.v.sum 1), .int .u8 (x6.v.sum 2), .int .u8 (x6.v.sum 3), .int .u8 (x6.v.sum 4), .int .u8 (x6.v.sum 5), .int .u8 (x6.v.sum 6), .int .u8 (x6.v.sum 7), .int .u8 (x6.v.sum 8), .int .u8 (x6.v.sum 9), .int .u8 (x6.v.sum 10), .int .u8 (x6.v.sum 11), .int .u8 (x6.v.sum 12), .int .u8 (x6.v.sum 13), .int .u8 (x6.v.sum 14), .int .u8 (x6.v.sum 15), .int .u8 (x6.v.sum 16), .int .u8 (x6.v.sum 17), .int .u8 (x6.v.sum 18), .int .u8 (x6.v.sum 19), .int .u8 (x6.v.sum 20), .int .u8 (x6.v.sum 21), .int .u8 (x6.v.sum 22), .int .u8 (x6.v.sum 23), .int .u8 (x6.v.sum 24), .int .u8 (x6.v.sum 25), .int .u8 (x6.v.sum 26), .int .u8 (x6.v.sum 27), .int .u8 (x6.v.sum 28), .int .u8 (x6.v.sum 29), .int .u8 (x6.v.sum 30), .int .u8 (x6.v.sum 31), nt x6.v.after, nt x6.v.sub, nt x6.v.by_, .bool x6.v.put, nt x6.v.backer, nt x6.v.since, nt x6.v.till, nt x6.v.stop, nt x6.v.t.a, nt x6.v.t.n, nt x6.v.t.s] (some 20) 45 hb8_13 rfl rfl <| OI_yield { callee := (Callee.value (Operand.tmp 16)), args := #[(Operand.tmp 18),(Operand.tmp 20)], argTypes := #[61, 57] } l #[.agg #[nt x6.a, nt x6.b], .agg #[nt x6.v.state, nt x6.v.track, .int .u8 (x6.v.sum 0), .int .u8 (x6.v.sum 1), .int .u8 (x6.v.sum 2), .int .u8 (x6.v.sum 3), .int .u8 (x6.v.sum 4), .int .u8 (x6.v.sum 5), .int .u8 (x6.v.sum 6), .int .u8 (x6.v.sum 7), .int .u8 (x6.v.sum 8), .int .u8 (x6.v.sum 9), .int .u8 (x6.v.sum 10), .int .u8 (x6.v.sum 11), .int .u8 (x6.v.sum 12), .int .u8 (x6.v.sum 13), .int .u8 (x6.v.sum 14), .int .u8 (x6.v.sum 15), .int .u8 (x6.v.sum 16), .int .u8 (x6.v.sum 17), .int .u8 (x6.v.sum 18), .int .u8 (x6.v.sum 19), .int .u8 (x6.v.sum 20), .int .u8 (x6.v.sum 21), .int .u8 (x6.v.sum 22), .int .u8 (x6.v.sum 23), .int .u8 (x6.v.sum 24), .int .u8 (x6.v.sum 25), .int .u8 (x6.v.sum 26), .int .u8 (x6.v.sum 27), .int .u8 (x6.v.sum 28), .int .u8 (x6.v.sum 29), .int .u8 (x6.v.sum 30), .int .u8 (x6.v.sum 31), nt x6.v.after, nt x6.v.sub, nt x6.v.by_, .bool x6.v.put, nt x6.v.backer, nt x6.v.since, nt x6.v.till, nt x6.v.stop, nt x6.v.t.a, nt x6.v.t.n, nt x6.v.t.s]] (some 21) (by kernel_rfl) (by kernel_rfl) (by have hy := hY i _ (by omega) (hJ i _ _ hj (Keep.ofNone hkh)); rw [encC_at hx7] at hy; exact hy) ?_
  rintro _ w15 (⟨rfl, hj16⟩ | ⟨rfl, hj16⟩)
  ·
   refine ⟨_, rfl, ?_⟩
   refine Oen [0, 10, 11, 12, 22] <| Vf <| V_skip <| X_block <| X_then <| V_region ?_
   have hw17 : i64.wrap ((i : Int) + 1) = ((i + 1 : Nat) : Int) := wrp
   refine On 1 [0, 10, 11, 23] <| Oq (u := nt (i64.wrap ((i : Int) + 1))) (v := nt ((i + 1 : Nat) : Int)) 23 (by rw [hw17]) <| Os 2 [(0, .func (.yield l) #[] #[]),(10, sl_ b5 o5 cs.length cap),(11, nt (cs.length : Int)),(12, nt ((i + 1 : Nat) : Int))] <| OI_end rfl ?_
   exact V_again (k2 - 1) (by omega) [(0, .func (.yield l) #[] #[]),(10, sl_ b5 o5 cs.length cap),(11, nt (cs.length : Int)),(12, nt ((i + 1 : Nat) : Int))] rfl ⟨i + 1, by omega, hj16, rfl⟩
  ·
   refine ⟨_, rfl, ?_⟩
   refine Ose [(0, .func (.yield l) #[] #[]),(10, sl_ b5 o5 cs.length cap),(11, nt (cs.length : Int)),(12, nt (i : Int)),(22, .bool true)] <| Vo <| V_ret <| X_ret_block <| X_ret_then <| X_ret_then <| X_ret_block ?_
   exact X_return _ rfl ⟨⟨_, rfl⟩, .inr ⟨i + 1, by omega, hj16⟩⟩
 refine V_exit <| X_exit_then <| X_exit_then <| X_exit_here ?_
 have he : i = cs.length := by omega
 rw [he] at hj
 exact X_end _ rfl ⟨⟨_, rfl⟩, .inl (hJ _ _ _ hj (Keep.ofNone hkh))⟩
theorem cellsfn_spec (v : Value) (hv : v.cells = [v].toArray) (w : World) : Calls Tryz.prog 184 #[v] w fun e w' => ∃ c, e = .returned (.func (.func 202) #[] #[pt c]) ∧ Blk w' c [v] 95 ∧ Keep none_ w w' ∧ w.heap.size ≤ c := by
 have hK0 := Keep.refl none_ w
 refine eV ?_
 refine Vr <| OI_box 95 (.tmp 0) v [v] (some 1) (by kernel_rfl) (by kernel_rfl) hv ?_
 intro b1 w1 e1 hb1 k1 z1
 have hsz2 := Keep.size k1
 replace hK0 := hK0.tn k1
 have hb1lt := hb1.lt
 refine On 2 [1] <| Oer <| Ose [(2, .func (.func 202) #[] #[pt b1])] <| V_ret ?_
 exact X_return _ rfl ⟨_, rfl, hb1, hK0, by omega⟩
end Go.Al.GQ
namespace Go.Al.GQ
open Go Go.RowKit Go.Proofs
variable {A : Option Addr} {W W' : World} {cap k : Nat} {cs : List Ci} {n : Int}
def rowL (n : Int) (cs : List Ci) : List (Int × Rfm) := (cs.filter fun c => c.a == n).map fun c => (c.b, c.v)
def enc2 (xs : List (Int × Rfm)) (k : Nat) : Array Value := match xs[k]? with | some p => #[nt p.1, .agg (Rfm.cells p.2).toArray] | none => #[undef, undef]
theorem enc2_at {xs : List (Int × Rfm)} {p : Int × Rfm} (h : xs[k]? = some p) : enc2 xs k = #[nt p.1, .agg (Rfm.cells p.2).toArray] := by unfold enc2; rw [h]
theorem enc2_size (xs : List (Int × Rfm)) (k : Nat) : (enc2 xs k).size = 2 := by unfold enc2; split <;> rfl
theorem fm_step {α β : Type} (p : α → Bool) (f : α → β) {cs : List α} {c : α} (h : cs[k]? = some c) : ((cs.take (k + 1)).filter p).map f = if p c then ((cs.take k).filter p).map f ++ [f c] else ((cs.take k).filter p).map f := by
  obtain ⟨h1, rfl⟩ := List.getElem?_eq_some_iff.1 h
  rw [List.take_succ_eq_append_getElem h1, List.filter_append, List.map_append]
  by_cases hp : p cs[k] = true <;> simp [hp]
theorem fm_at {α β : Type} (p : α → Bool) (f : α → β) {cs : List α} {c : α} (h : cs[k]? = some c) (hp : p c = true) : (((cs.filter p).map f)[(((cs.take k).filter p).map f).length]? = some (f c)) ∧ (((cs.take k).filter p).map f).length < ((cs.filter p).map f).length := by
  have h2 := fm_step p f h
  rw [if_pos hp] at h2
  have h3 : (cs.filter p).map f = (((cs.take k).filter p).map f ++ [f c]) ++ ((cs.drop (k + 1)).filter p).map f := by
    rw [← h2, ← List.map_append, ← List.filter_append, List.take_append_drop]
  rw [h3]
  exact ⟨by simp, by simp⟩
theorem rowL_step {c : Ci} (h : cs[k]? = some c) : rowL n (cs.take (k + 1)) = if c.a = n then rowL n (cs.take k) ++ [(c.b, c.v)] else rowL n (cs.take k) := by
  have := fm_step (fun c : Ci => c.a == n) (fun c => (c.b, c.v)) h
  simpa [rowL] using this
theorem rowL_at {c : Ci} (h : cs[k]? = some c) (hc : c.a = n) : (rowL n cs)[(rowL n (cs.take k)).length]? = some (c.b, c.v) ∧ (rowL n (cs.take k)).length < (rowL n cs).length := fm_at (fun c : Ci => c.a == n) (fun c => (c.b, c.v)) h (by simp [hc])
structure AlOk (bs bn : Nat) (s n : Int) (A : Option Addr) (cap : Nat) (cs : List Ci) (W : World) : Prop where
  side : Blk W bs [nt s] 3
  num : Blk W bn [nt n] 3
  sl : SlT W 47 Ci.cells A cap cs
theorem AlOk.quiet {N bs bn : Nat} {s : Int} (h : AlOk bs bn s n A cap cs W) (k : Keep (lb N W) W W') : AlOk bs bn s n A cap cs W' := ⟨h.1.quiet k, h.2.quiet k, h.3.quiet k⟩
theorem AlOk.keep0 {bs bn : Nat} {s : Int} (h : AlOk bs bn s n A cap cs W) (k : Keep none_ W W') : AlOk bs bn s n A cap cs W' := ⟨h.1.keep k id, h.2.keep k id, h.3.keep0 k⟩
theorem GrAt.quiet {N g : Nat} (h : GrAt W g A cap cs) (k : Keep (lb N W) W W') : GrAt W' g A cap cs := ⟨h.blk.quiet k, h.sl.quiet k, h.off⟩
theorem GrAt.keep0 {g : Nat} (h : GrAt W g A cap cs) (k : Keep none_ W W') : GrAt W' g A cap cs := ⟨h.blk.keep k id, h.sl.keep0 k, h.off⟩
theorem along1_iter0 (bg bs bn g cap : Nat) (A : Option Addr) (cs : List Ci) (n : Int) (hn : cs.length ≤ 1000000) : Iter2 Tryz.prog 183 #[pt bg, pt bs, pt bn] (rowL n cs).length (enc2 (rowL n cs)) (fun W => Blk W bg [pt g] 95 ∧ GrAt W g A cap cs ∧ AlOk bs bn 0 n A cap cs W) (AlOk bs bn 0 n A cap cs) := by
 intro l J Jx w hPre hJ hJx hY hOk h0
 obtain ⟨hbg, h, ho⟩ := hPre
 have hbs := ho.side
 have hbn := ho.num
 have hg := h.blk
 have hA := h.sl
 have hglt := hg.lt
 have hgA := h.off
 have hbslt := hbs.lt
 have hbnlt := hbn.lt
 have hbglt := hbg.lt
 show Calls Tryz.prog 183 #[.func (.yield l) #[] #[], pt bg, pt bs, pt bn] w _
 have hK0 := Keep.refl none_ w
 refine enterM Tryz.func183 rfl [.func (.yield l) #[] #[], pt bg, pt bs, pt bn] 26 rfl rfl rfl ?_
 refine Vp [(0, .func (.yield l) #[] #[]),(1, pt bg),(2, pt bs),(3, pt bn)] <| Vr <| Bx 252 [.func (.yield l) #[] #[]] ?_
 intro b1 w1 e1 hb1 k1 z1
 have hsz2 := Keep.size k1
 replace hbg := hbg.k0 k1
 replace hK0 := hK0.tn k1
 have hb1lt := hb1.lt
 refine Oer <| Lr 0 (pt g) hbg <| Ok (kl 184 #[(.tmp 7)] #[95]) 184 #[pt g] (some 8) (cellsfn_spec _ rfl _) ?_
 rintro _ w3 ⟨c5, rfl, hc5, hk4, hgec5⟩
 refine ⟨_, rfl, ?_⟩
 have hsz6 := Keep.size hk4
 replace hbs := hbs.k0 (k1.tr hk4)
 replace hbn := hbn.k0 (k1.tr hk4)
 replace hg := hg.k0 (k1.tr hk4)
 replace hb1 := hb1.k0 hk4
 replace hA := hA.keep0 (k1.tr hk4)
 replace hK0 := hK0.tn hk4
 have hc5lt := hc5.lt
 refine Oe <| V_block ?_
 have hb4ge : w.heap.size ≤ b1 := by omega
 refine Vp [(2, pt bs),(3, pt bn),(4, pt b1),(8, .func (.func 202) #[] #[pt c5])] ?_
 have hN0 : w.heap.size ≤ w3.heap.size := Keep.size hK0
 refine V_range2 (gf := 202) (caps := #[pt c5]) (m := cs.length) (by kernel_rfl) (by kernel_rfl) (by kernel_rfl) ((cells1_iter c5 g cap A cs hn).to2) (⟨hc5, ⟨hg, hA, hgA⟩⟩) (fun W W' h k => ⟨h.1.quiet k, h.2.quiet k⟩) (encC_size cs) (fun M1 k W => (Blk W bs [nt 0] 3) ∧ (Blk W bn [nt n] 3) ∧ (Blk W b1 [.func (.yield l) #[] #[]] 252) ∧ (J M1 (rowL n (cs.take k)).length W)) (fun M1 c k W => (c = .ret ∧ ∃ q : Nat, (Jx M1 q W) ∧ (q ≤ (rowL n cs).length))) (fun M1 k W W' h hk => by obtain ⟨jbs, jbn, jb1, jj⟩ := h; exact ⟨jbs.quiet hk, jbn.quiet hk, jb1.quiet hk, (((hJ _ _).mono (by omega)) _ _ jj hk)⟩) (fun M1 c k W W' h hk => by obtain ⟨hc, q, xx, hq⟩ := h; exact ⟨hc, q, (((hJx _ _).mono (by omega)) _ _ xx hk), hq⟩) (fun M1 hM1 => ⟨hbs, hbn, hb1, hJ _ _ _ _ (h0 _ (by omega)) (Keep.ofNone hK0)⟩) (fun M1 k W h => by obtain ⟨jbs, jbn, jb1, jj⟩ := h; exact (hOk _ _ _ jj).sl) ?_ ?_ ?_
 ·
  intro lp D M1 k W hD hl hM hMW hkm ⟨jbs, jbn, jb1, jj⟩ ⟨rr, hrr⟩ hDD
  have hbslt := jbs.lt
  have hbnlt := jbn.lt
  have hb1lt := jb1.lt
  obtain ⟨x, hx⟩ : ∃ x, cs[k]? = some x := ⟨_, List.getElem?_eq_getElem (by omega)⟩
  rw [encC_at hx]
  refine Vp [(2, pt bs),(3, pt bn),(4, pt b1),(9, .agg #[nt x.a, nt x.b]),(10, .agg (Rfm.cells x.v).toArray)] ?_
  have hfen : Keep (fen w3.heap.size M1) W W := Keep.refl _ _
  have hzhfen := Keep.size hfen
  have hkj : Keep none_ W W := Keep.refl _ _
  have hzhkj := Keep.size hkj
  refine Vr <| OI_alloc 61 (.agg #[nt 0, nt 0]) [nt 0, nt 0] (some 5) (by kernel_rfl) (by kernel_rfl) (by kernel_rfl) ?_
  intro b7 w7 e7 hb7 k7 z7
  have hsz8 := Keep.size k7
  replace jbs := jbs.k0 k7
  replace jbn := jbn.k0 k7
  replace jb1 := jb1.k0 k7
  replace hfen := hfen.tn k7
  replace hkj := hkj.tn k7
  have hb7lt := hb7.lt
  refine OI_set (m := 2) (kd := true) 61 (.tmp 5) (.tmp 9) 0 (.agg #[nt x.a, nt x.b]) [nt x.a, nt x.b] none (by kernel_rfl) (by kernel_rfl) (by kernel_rfl) hb7 (by kernel_rfl) (by kernel_rfl) (by kernel_rfl) (Nat.le_of_ble_eq_true (by kernel_rfl)) (by simp [Value.oneCell']) ?_
  intro w9 hb7_12 hk10 hz11
  replace hb7_12 : Blk w9 b7 [nt x.a, nt x.b] 61 := hb7_12
  have hsz13 := Keep.size hk10
  replace jbs := jbs.k1 hk10
  replace jbn := jbn.k1 hk10
  replace jb1 := jb1.k1 hk10
  replace hfen := Keep.fresh hfen hk10 (by intro i hi hs; have hs2 : i = b7 := hs; show _ ∨ _; omega)
  replace hkj := Keep.fr hkj hk10
  refine Oe <| V_region <| OI_alloc 57 (.agg #[nt 0, nt 0, .int .u8 0, .int .u8 0, .int .u8 0, .int .u8 0, .int .u8 0, .int .u8 0, .int .u8 0, .int .u8 0, .int .u8 0, .int .u8 0, .int .u8 0, .int .u8 0, .int .u8 0, .int .u8 0, .int .u8 0, .int .u8 0, .int .u8 0, .int .u8 0, .int .u8 0, .int .u8 0, .int .u8 0, .int .u8 0, .int .u8 0, .int .u8 0, .int .u8 0, .int .u8 0, .int .u8 0, .int .u8 0, .int .u8 0, .int .u8 0, .int .u8 0, .int .u8 0, nt 0, nt 0, nt 0, .bool false, nt 0, nt 0, nt 0, nt 0, nt 0, nt 0, nt 0]) [nt 0, nt 0, .int .u8 0, .int .u8 0, .int .u8 0, .int .u8 0, .int .u8 0, .int .u8 0, .int .u8 0, .int .u8 0, .int .u8 0, .int .u8 0, .int .u8 0, .int .u8 0, .int .u8 0, .int .u8 0, .int .u8 0, .int .u8 0, .int .u8 0, .int .u8 0, .int .u8 0, .int .u8 0, .int .u8 0, .int .u8 0, .int .u8 0, .int .u8 0, .int .u8 0, .int .u8 0, .int .u8 0, .int .u8 0, .int .u8 0, .int .u8 0, .int .u8 0, .int .u8 0, nt 0, nt 0, nt 0, .bool false, nt 0, nt 0, nt 0, nt 0, nt 0, nt 0, nt 0] (some 6) (by kernel_rfl) (by kernel_rfl) (by kernel_rfl) ?_
  intro b14 w14 e14 hb14 k14 z14
  have hsz15 := Keep.size k14
  replace jbs := jbs.k0 k14
  replace jbn := jbn.k0 k14
  replace jb1 := jb1.k0 k14
  replace hb7_12 := hb7_12.k0 k14
  replace hfen := hfen.tn k14
  replace hkj := hkj.tn k14
  have hb14lt := hb14.lt
  refine Sg 0 (Rfm.cells x.v) hb14 (Rfm.len _) (Rfm.one _) ?_
  intro w16 hb14_19 hk17 hz18
  replace hb14_19 : Blk w16 b14 (Rfm.cells x.v) 57 := (by rwa [over_whole (by rw [Rfm.len]; rfl)] at hb14_19)
  have hsz20 := Keep.size hk17
  replace jbs := jbs.k1 hk17
  replace jbn := jbn.k1 hk17
  replace jb1 := jb1.k1 hk17
  replace hb7_12 := hb7_12.k1 hk17
  replace hfen := Keep.fresh hfen hk17 (by intro i hi hs; have hs2 : i = b14 := hs; show _ ∨ _; omega)
  replace hkj := Keep.fr hkj hk17
  refine OI_end rfl <| X_begin2 hfen ?_
  intro W2 hk2 ⟨r2, hr2⟩ hD2
  have hsz21 := Keep.size hk2
  replace jbs := Blk.quiet jbs hk2
  replace jbn := Blk.quiet jbn hk2
  replace jb1 := Blk.quiet jb1 hk2
  replace hb7_12 := Blk.quiet hb7_12 hk2
  replace hb14_19 := Blk.quiet hb14_19 hk2
  replace jj := hJ _ _ _ _ jj (Keep.ofNone hkj); replace jj := (hJ _ _).mono (by omega : w.heap.size ≤ w3.heap.size) _ _ jj hk2; replace hkj := Keep.refl none_ W2
  have hzhk2 := Keep.size hk2
  have hfenb : Keep (fen w3.heap.size M1) W2 W2 := Keep.refl _ _
  have hzhfenb := Keep.size hfenb
  have hzhkj := Keep.size hkj
  refine V_block <| V_seq <| V_draws (acts [12]) none_ [[0, 1, 2, 3, 4, 5, 6, 7, 8, 9, 10, 11, 12, 13, 14]] (by kernel_rfl) (by repeat first | exact (by first | exact sure_postM | exact sure_rQ2 | exact sure_no | exact sure_body (by rintro _ _ ⟨h, _⟩; exact ⟨_, h⟩)) | refine sure_then ?_ | refine sure_block ?_ | refine sure_join ?_) (by kernel_rfl) ?_
  intro w23 hk22 he24 L hL25
  have hsz26 := Keep.size hk22
  replace jbs := jbs.k0 hk22
  replace jbn := jbn.k0 hk22
  replace jb1 := jb1.k0 hk22
  replace hb7_12 := hb7_12.k0 hk22
  replace hb14_19 := hb14_19.k0 hk22
  replace hkj := hkj.tn hk22
  replace hfenb := hfenb.tn hk22
  have qjbs := jbs
  have qjbn := jbn
  have qjb1 := jb1
  have qhb7_12 := hb7_12
  have qhb14_19 := hb14_19
  have K27 : Keep none_ w23 w23 := Keep.refl _ _
  obtain rfl := List.mem_singleton.1 hL25
  refine Mr 0 (nt 0) qjbs <| Gn [2, 3, 4, 5, 6, 7, 8, 9, 10, 11, 12, 13, 14] [2, 3, 4, 5, 6, 12] <| Mr 0 (nt x.a) qhb7_12 <| Mr 0 (nt n) qjbn <| Gn [6, 7, 8, 9, 10, 11, 12, 13, 14] [2, 4, 5, 6, 16] ?_
  by_cases hg28 : x.a = n
  ·
   refine Et 16 hg28 <| Mr 0 (.func (.yield l) #[] #[]) qjb1 <| Mr 0 (nt 0) qjbs <| Gs [10, 11, 12, 13, 14] [(6, pt b14),(16, .bool true),(17, .func (.yield l) #[] #[]),(20, po_ b7 1)] <| Gc0 3 (.tmp 20) 1 (nt x.b) (some 21) qhb7_12 rfl <| Ga 57 (.tmp 6) 0 (Rfm.cells x.v) (some 22) 45 qhb14_19 id (take_all (Rfm.len _)) (Rfm.len _) ?_
   obtain ⟨hat, hlt⟩ := rowL_at hx hg28
   refine GI_yield0 { callee := (Callee.value (Operand.tmp 17)), args := #[(Operand.tmp 21),(Operand.tmp 22)], argTypes := #[3, 57] } l #[nt x.b, .agg (Rfm.cells x.v).toArray] (some 23) (by kernel_rfl) (by kernel_rfl) (by kernel_rfl) (by kernel_rfl) (by have hy := hY M1 _ _ (by omega) (by omega) hlt (hJ _ _ _ _ jj (Keep.ofNone hkj)); rw [enc2_at hat] at hy; exact hy) ?_
   rintro _ w29 ⟨hk31, (⟨rfl, hj30⟩ | ⟨rfl, hj30⟩)⟩
   ·
    refine ⟨_, rfl, ?_⟩
    have hsz32 := Keep.size hk31
    replace jb1 := jb1.keep hk31 (by show ¬ (_ ∨ _); omega)
    replace hfenb := Keep.fresh hfenb hk31 (by intro i hi hs; rcases hs with hs | hs; exact .inl (by omega); exact .inr hs)
    have hok33 := hOk _ _ _ hj30
    have hok33s := hok33.side
    have hok33n := hok33.num
    refine Gs [] [(25, .bool false)] <| GI_end <| X_then <| Vf <| V_skip <| X_block ?_
    exact fun a _ => ⟨hfenb, hok33s, hok33n, jb1, by rw [rowL_step hx, if_pos hg28]; simpa using hj30⟩
   ·
    refine ⟨_, rfl, ?_⟩
    have hsz34 := Keep.size hk31
    replace hfenb := Keep.fresh hfenb hk31 (by intro i hi hs; rcases hs with hs | hs; exact .inl (by omega); exact .inr hs)
    refine Gs [] [(25, .bool true)] <| GI_end <| X_then <| Vo <| V_ret <| X_ret_block ?_
    exact fun a _ => ⟨hfenb, ⟨rfl, _, hj30, by omega⟩⟩
  refine Ef 16 hg28 <| Gs [] [(25, .bool false)] <| GI_end <| X_then <| Vf <| V_skip <| X_block ?_
  exact fun a _ => ⟨hfenb, jbs, jbn, jb1, hJ _ _ _ _ (by rw [rowL_step hx, if_neg hg28]; exact jj) (Keep.ofNone hkj)⟩
 ·
  intro D M1 W hD hM ⟨jbs, jbn, jb1, jj⟩ hDD
  have hbslt := jbs.lt
  have hbnlt := jbn.lt
  have hb1lt := jb1.lt
  refine X_block ?_
  rw [List.take_length] at jj
  exact leave1 (.tuple #[]) (.inr rfl) hDD (fun w' hk => ⟨res_tmps rfl, ⟨_, rfl⟩, M1, by omega, .inl (((hJ _ _).mono (by omega)) _ _ jj hk)⟩)
 ·
  intro D M1 k c W hD hM hkm h hDD
  obtain ⟨hc, q, xx, hq⟩ := h
  subst hc
  refine V_ret <| X_ret_block ?_
  exact leave1 (.tuple #[]) (.inl rfl) hDD (fun w' hk => ⟨res_tmps rfl, ⟨_, rfl⟩, M1, by omega, .inr ⟨q, hq, ((hJx _ _).mono (by omega)) _ _ xx hk⟩⟩)
theorem alongfn_spec (v : Value) (hv : v.cells = [v].toArray) (s n : Int) (w : World) : Calls Tryz.prog 150 #[v, nt s, nt n] w fun e w' => ∃ bg bs bn, e = .returned (.func (.func 183) #[] #[pt bg, pt bs, pt bn]) ∧ Blk w' bg [v] 95 ∧ Blk w' bs [nt s] 3 ∧ Blk w' bn [nt n] 3 ∧ Keep none_ w w' ∧ w.heap.size ≤ bg ∧ w.heap.size ≤ bs ∧ w.heap.size ≤ bn := by
 have hK0 := Keep.refl none_ w
 refine eV ?_
 refine Vr <| OI_box 95 (.tmp 0) v [v] (some 3) (by kernel_rfl) (by kernel_rfl) hv ?_
 intro b1 w1 e1 hb1 k1 z1
 have hsz2 := Keep.size k1
 replace hK0 := hK0.tn k1
 have hb1lt := hb1.lt
 refine Bx 3 [nt s] ?_
 intro b3 w3 e3 hb3 k3 z3
 have hsz4 := Keep.size k3
 replace hK0 := hK0.tn k3
 have hb3lt := hb3.lt
 refine Bx 3 [nt n] ?_
 intro b5 w5 e5 hb5 k5 z5
 have hsz6 := Keep.size k5
 replace hb1 := hb1.k0 (k3.tr k5)
 replace hb3 := hb3.k0 k5
 replace hK0 := hK0.tn k5
 have hb5lt := hb5.lt
 refine On 4 [3, 4, 5] <| Oer <| Ose [(6, .func (.func 183) #[] #[pt b1, pt b3, pt b5])] <| V_ret ?_
 exact X_return _ rfl ⟨_, _, _, rfl, hb1, hb3, hb5, hK0, by omega, by omega, by omega⟩
theorem row_spec (v : Value) (hv : v.cells = [v].toArray) (n : Int) (w : World) : Calls Tryz.prog 102 #[v, nt n] w fun e w' => ∃ bg bs bn, e = .returned (.func (.func 183) #[] #[pt bg, pt bs, pt bn]) ∧ Blk w' bg [v] 95 ∧ Blk w' bs [nt 0] 3 ∧ Blk w' bn [nt n] 3 ∧ Keep none_ w w' ∧ w.heap.size ≤ bg ∧ w.heap.size ≤ bs ∧ w.heap.size ≤ bn := by
 have hK0 := Keep.refl none_ w
 refine eV ?_
 refine Vr <| On 1 [0, 1] <| Oer <| On 2 [5, 6] <| Kg (alongfn_spec v hv 0 n _) ?_
 rintro _ w1 ⟨bg, bs, bn, rfl, h1, h2, h3, hk2, h4, h5, h6⟩
 refine ⟨_, rfl, ?_⟩
 have hsz3 := Keep.size hk2
 replace hK0 := hK0.tn hk2
 refine Ose [(4, .func (.func 183) #[] #[pt bg, pt bs, pt bn])] <| V_ret ?_
 exact X_return _ rfl ⟨_, _, _, rfl, h1, h2, h3, hK0, h4, h5, h6⟩
end Go.Al.GQ
namespace Go.Al.GQ
open Go Go.RowKit Go.Proofs
variable {F : Nat → Prop} {cs : List Ci} {g : Nat} {w : World}
theorem Srt.nil : Srt [] := List.Pairwise.nil
def Grd (F : Nat → Prop) (w : World) (g : Nat) (cs : List Ci) : Prop := Srt cs ∧ cs.length ≤ 100000 ∧ F g ∧ (∀ q, F q → q < w.heap.size) ∧ ∃ A cap, GrAt w g A cap cs ∧ ∀ q, inA A q → F q
theorem Grd.lt (h : Grd F w g cs) : ∀ q, F q → q < w.heap.size := h.2.2.2.1
theorem Grd.at_ (h : Grd F w g cs) : F g := h.2.2.1
theorem Grd.len (h : Grd F w g cs) : cs.length ≤ 100000 := h.2.1
theorem Grd.keep {S : Nat → Prop} {w' : World} (h : Grd F w g cs) (k : Keep S w w') (hS : ∀ q, F q → ¬ S q) : Grd F w' g cs := by
  obtain ⟨h1, h2, h3, h4, A, cap, h5, h6⟩ := h
  exact ⟨h1, h2, h3, fun q hq => Nat.lt_of_lt_of_le (h4 q hq) k.size, A, cap, ⟨h5.blk.keep k (hS _ h3), h5.sl.keep k (fun q hq => hS q (h6 q hq)), h5.off⟩, h6⟩
theorem Grd.quiet {N : Nat} {w' : World} (h : Grd F w g cs) (k : Keep (lb N w) w w') : Grd F w' g cs := by
  obtain ⟨h1, h2, h3, h4, A, cap, h5, h6⟩ := h
  exact ⟨h1, h2, h3, fun q hq => Nat.lt_of_lt_of_le (h4 q hq) k.size, A, cap, h5.quiet k, h6⟩
theorem Grd.mono {F' : Nat → Prop} (h : Grd F w g cs) (hF : ∀ q, F q → F' q) (hlt : ∀ q, F' q → q < w.heap.size) : Grd F' w g cs := by
  obtain ⟨h1, h2, h3, h4, A, cap, h5, h6⟩ := h
  exact ⟨h1, h2, hF _ h3, hlt, A, cap, h5, fun q hq => hF q (h6 q hq)⟩
theorem Grd.of {D : Nat → Prop} (h : Gr D w g cs) (hg : F g) (hD : ∀ q, q < w.heap.size → D q → F q) (hlt : ∀ q, F q → q < w.heap.size) : Grd F w g cs := by
  obtain ⟨h1, h2, A, cap, h5, h6⟩ := h
  exact ⟨h1, h2, hg, hlt, A, cap, h5, fun q hq => hD q (h5.sl.lt q hq) (h6 q hq)⟩
theorem Grd.gr (h : Grd F w g cs) : Gr F w g cs := by
  obtain ⟨h1, h2, h3, h4, A, cap, h5, h6⟩ := h
  exact ⟨h1, h2, A, cap, h5, h6⟩
def more (F : Nat → Prop) (w w' : World) : Nat → Prop := fun q => F q ∨ (w.heap.size ≤ q ∧ q < w'.heap.size)
theorem Gr.mono {D D' : Nat → Prop} (h : Gr D w g cs) (hD : ∀ k, D k → D' k) : Gr D' w g cs := by
  obtain ⟨h1, h2, A, cap, h5, h6⟩ := h
  exact ⟨h1, h2, A, cap, h5, fun q hq => hD q (h6 q hq)⟩
theorem new_grd (w : World) : Calls Tryz.prog 83 #[] w fun e w' => ∃ g F, e = .returned (pt g) ∧ Grd F w' g [] ∧ Keep none_ w w' ∧ (∀ q, F q → w.heap.size ≤ q) := (new_spec (fun q => w.heap.size ≤ q) w).mono (by
  rintro e w' ⟨g, rfl, h1, h2, h3⟩
  have hg : g < w'.heap.size := by obtain ⟨_, _, A, cap, h, _⟩ := h1; exact h.blk.lt
  exact ⟨g, fun q => w.heap.size ≤ q ∧ q < w'.heap.size, rfl, Grd.of h1 ⟨h3, hg⟩ (fun q h1 h2 => ⟨h2, h1⟩) (fun q h => h.2), h2, fun q h => h.1⟩)
end Go.Al.GQ
namespace Go.Al.GV
open Go Go.RowKit Go.Proofs
structure Ci where
  a : Int
  b : Int
  v : Vt
def Ci.cells (c : Ci) : List Value := [nt c.a, nt c.b, nt (c.v).kind, .bool (c.v).aye, nt (c.v).level, nt (c.v).a, nt (c.v).n, nt (c.v).s]
theorem Ci.len (c : Ci) : c.cells.length = 8 := rfl
theorem Ci.one (c : Ci) : ∀ u ∈ c.cells, u.oneCell' = true := one_all' rfl
def ordC (a b : Int) (c : Ci) : Int := orI [cmpI c.a a, cmpI c.b b]
theorem place1_spec (c : Ci) (a b : Int) (w : World) : Calls Tryz.prog 160 #[.agg c.cells.toArray, .agg #[nt a, nt b]] w fun e w' => e = .returned (nt (ordC a b c)) ∧ Keep none_ w w' := by
 have hK0 := Keep.refl none_ w
 refine eV ?_
 refine Vr <| OI_box 203 (.tmp 0) (.agg (Ci.cells c).toArray) (Ci.cells c) (some 2) (by kernel_rfl) (by kernel_rfl) rfl ?_
 intro b1 w1 e1 hb1 k1 z1
 have hsz2 := Keep.size k1
 replace hK0 := hK0.tn k1
 have hb1lt := hb1.lt
 refine Bx 61 [nt a, nt b] ?_
 intro b3 w3 e3 hb3 k3 z3
 have hsz4 := Keep.size k3
 replace hK0 := hK0.tn k3
 have hb3lt := hb3.lt
 refine Oen [2, 3] <| V_seq <| Vd1 (acts [5, 11, 12, 13]) none_ [0, 1, 2, 3, 4, 5, 6, 7, 8, 9, 10, 11, 12, 13, 14] fun w6 hk5 he7 K10 _ => ?_
 replace hb1 := hb1.k0 (k3.tr hk5)
 replace hb3 := hb3.k0 hk5
 replace hK0 := hK0.tn hk5
 have qhb1 := hb1
 have qhb3 := hb3
 refine Gn [2, 3, 4, 5, 6, 7, 8, 9, 10, 11, 12, 13, 14] [2, 3, 6] <| Mr 0 (nt c.a) qhb1 <| Gn [4, 5, 6, 7, 8, 9, 10, 11, 12, 13, 14] [2, 3, 7, 8] <| Mr 0 (nt a) qhb3 <| Hq K10 (compare_spec c.a a _) <| Gn [8, 9, 10, 11, 12, 13, 14] [3, 10, 12] <| Mr 1 (nt c.b) qhb1 <| Gn [10, 11, 12, 13, 14] [10, 13, 14] <| Mr 1 (nt b) qhb3 <| Jq (compare_spec c.b b _) <| GI_slit (E := 3) (zv := nt 0) (sz := 1) (by_ := 8) 72 2 #[(0, (Operand.tmp 10)),(1, (Operand.tmp 16))] [nt (cmpI c.a a), nt (cmpI c.b b)] [nt (cmpI c.a a), nt (cmpI c.b b)] (some 17) (by kernel_rfl) (by kernel_rfl) K10 (by kernel_rfl) (by kernel_rfl) (by omega) rfl (by omega) (by intro v hv; simp only [List.mem_cons, List.not_mem_nil, or_false] at hv; rcases hv with rfl | rfl <;> rfl) (by kernel_rfl) rfl ?_
 intro b13 w13 e13 hb13 k13 z13 K14
 have hsz15 := Keep.size k13
 replace hK0 := hK0.tn k13
 have hb13lt := hb13.lt
 refine Gk0 (kl 146 #[(.tmp 17)] #[72]) 146 #[sl_ b13 0 2 2] (some 18) (or_spec _ 2 [cmpI c.a a, cmpI c.b b] _ (slt_blk hb13 (fun _ => rfl) rfl) (by simp)) ?_
 rintro _ w13 ⟨rfl, rfl⟩
 refine ⟨_, rfl, ?_⟩
 exact Gn [] [4] <| GI_end <| X_then <| Rr (nt (orI [cmpI c.a a, cmpI c.b b])) ⟨rfl, hK0⟩
theorem bsearch_spec (A : Option Addr) (cap F : Nat) (xs : List Ci) (kl : List Value) (ord : Ci → Int) (w : World) (hA : SlT w 8 Ci.cells A cap xs) (hkl : kl.length = 2) (hn : xs.length ≤ 1000000) (hb : bodied Tryz.prog F = true)
    (hF : ∀ x w, Calls Tryz.prog F #[.agg (Ci.cells x).toArray, .agg kl.toArray] w fun e w' => e = .returned (nt (ord x)) ∧ Keep none_ w w') (hm : ∀ (i j : Nat) x y, i ≤ j → xs[i]? = some x → xs[j]? = some y → ord y < 0 → ord x < 0) :
    Calls Tryz.prog 159 #[.slice A xs.length cap, .agg kl.toArray, .func (.func F) #[] #[]] w fun e w' => ∃ (i : Nat) (b : Bool), e = .returned (.tuple #[nt (i : Int), .bool b]) ∧ Keep none_ w w' ∧ i ≤ xs.length ∧ (∀ (j : Nat) y, j < i → xs[j]? = some y → ord y < 0) ∧ (∀ (j : Nat) y, i ≤ j → xs[j]? = some y → ¬ ord y < 0) ∧ b = (match xs[i]? with | some y => decide (ord y = 0) | none => false) := by
 have hK0 := Keep.refl none_ w
 refine eV ?_
 refine Vr <| OI_box 61 (.tmp 1) (.agg kl.toArray) kl (some 4) (by kernel_rfl) (by kernel_rfl) rfl ?_
 intro b1 w1 e1 hb1 k1 z1
 have hsz2 := Keep.size k1
 replace hK0 := hK0.tn k1
 have hb1lt := hb1.lt
 refine On 3 [0, 2, 4] <| Oer <| On 3 [0, 2, 4, 8] <| Oer <| Oen [0, 2, 4, 8, 9, 10] <| V_seq <| V_block <| Vp [(0, .slice A xs.length cap),(2, .func (.func F) #[] #[]),(4, pt b1),(8, nt (xs.length : Int)),(9, nt 0),(10, nt (xs.length : Int))] <| V_loop (fun k wI e => ∃ lo : Nat, ∃ hi : Nat, (k + lo = hi) ∧ (lo ≤ hi) ∧ (hi ≤ xs.length) ∧ (∀ (j : Nat) y, j < lo → xs[j]? = some y → ord y < 0) ∧ (∀ (j : Nat) y, hi ≤ j → xs[j]? = some y → ¬ ord y < 0) ∧ Keep none_ w1 wI ∧ e = [(0, .slice A xs.length cap),(2, .func (.func F) #[] #[]),(4, pt b1),(8, nt (xs.length : Int)),(9, nt (lo : Int)),(10, nt (hi : Int))]) xs.length ⟨0, xs.length, rfl, Nat.zero_le _, Nat.le_refl _, (fun j y hj => absurd hj (Nat.not_lt_zero _)),(fun j y hj hy => absurd (List.getElem?_eq_some_iff.1 hy).1 (by omega)), Keep.refl _ _, rfl⟩ ?_
 rintro k4 w3 _ ⟨lo, hi, hk2, hlo, hhi, hbef, haft, hk5, rfl⟩
 have hsz6 := Keep.size hk5
 replace hb1 := hb1.k0 hk5
 replace hA := hA.keep0 (k1.tr hk5)
 replace hK0 := hK0.tn hk5
 have hzhk5 := Keep.size hk5
 refine V_seq <| Vn [0, 2, 4, 8, 9, 10, 17] <| Vi ((lo : Int) < (hi : Int)) (fun hc7 => ?_) (fun hc7 => ?_)
 ·
  refine Vsk <| V_block <| Vr ?_
  have hw8 : i64.wrap ((lo : Int) + (hi : Int)) = ((lo + hi : Nat) : Int) := wrp
  refine On 3 [0, 2, 4, 8, 9, 10, 20] <| Oq (u := nt (i64.wrap ((lo : Int) + (hi : Int)))) (v := nt ((lo + hi : Nat) : Int)) 20 (by rw [hw8]) ?_
  have hw9 : IntKind.u64.wrap ((lo + hi : Nat) : Int) = ((lo + hi : Nat) : Int) := wrap_u64 (by omega)
  refine On 4 [0, 2, 4, 8, 9, 10, 21] <| Oq (u := .int .u64 (IntKind.u64.wrap ((lo + hi : Nat) : Int))) (v := .int .u64 ((lo + hi : Nat) : Int)) 21 (by rw [hw9]) ?_
  have hw10 : Int.fdiv ((lo + hi : Nat) : Int) (2 ^ 1) = (((lo + hi) / 2 : Nat) : Int) := shr1 _
  refine On 5 [0, 2, 4, 8, 9, 10, 22] <| Oq (u := .int .u64 (Int.fdiv ((lo + hi : Nat) : Int) (2 ^ 1))) (v := .int .u64 (((lo + hi) / 2 : Nat) : Int)) 22 (by rw [hw10]) ?_
  have hw11 : i64.wrap (((lo + hi) / 2 : Nat) : Int) = (((lo + hi) / 2 : Nat) : Int) := wrap64_id (by omega) (by omega)
  refine On 6 [0, 2, 4, 8, 9, 10, 23] <| Oq (u := nt (i64.wrap (((lo + hi) / 2 : Nat) : Int))) (v := nt (((lo + hi) / 2 : Nat) : Int)) 23 (by rw [hw11]) <| Oen [0, 2, 4, 8, 9, 10, 11] <| V_seq <| Vd1 (acts [6]) none_ [0, 1, 2, 3, 4, 5, 6, 7] fun w13 hk12 he14 K17 _ => ?_
  replace hb1 := hb1.k0 hk12
  replace hA := hA.keep0 hk12
  replace hk5 := hk5.tn hk12
  have qhb1 := hb1
  refine Gn [3, 4, 5, 6, 7] [0, 2, 4, 8, 9, 10, 11, 24, 25, 26] ?_
  obtain ⟨b18, o18, L18, T18, rfl, hat18⟩ := SlT.opn hA
  have hb18lt := hat18.blk.lt
  refine Gi (b := b18) (o := o18) (len := xs.length) (cap := cap) (j := (lo + hi) / 2) 203 8 64 .i64 ?_
  obtain ⟨x19, hx20⟩ := exAt (xs := xs) (i := (lo + hi) / 2)
  refine Ma (o18 + ((lo + hi) / 2) * 8) (Ci.cells x19) 8 hat18.blk id (At.elem' hat18 (es_at hx20)) (At.len hat18 (es_at hx20)) <| Ma 0 kl 2 qhb1 id (take_all hkl) hkl <| GI_call0 { callee := (Callee.value (Operand.tmp 24)), args := #[(Operand.tmp 28),(Operand.tmp 29)], argTypes := #[203, 61] } F #[.agg (Ci.cells x19).toArray, .agg kl.toArray] (some 30) (by kernel_rfl) (by kernel_rfl) (by kernel_rfl) (by kernel_rfl) hb (hF x19 _) ?_
  rintro _ w21 ⟨rfl, hk22⟩
  refine ⟨_, rfl, ?_⟩
  have hsz23 := Keep.size hk22
  replace hk5 := hk5.tn hk22
  refine Gn [] [0, 2, 4, 8, 9, 10, 11, 31] <| GI_end <| X_then <| Vi (ord x19 < 0) (fun hc24 => ?_) (fun hc24 => ?_)
  ·
   refine V_region ?_
   have hw25 : i64.wrap ((((lo + hi) / 2 : Nat) : Int) + 1) = (((lo + hi) / 2 + 1 : Nat) : Int) := wrp
   refine On 2 [0, 2, 4, 8, 10, 33] <| Oq (u := nt (i64.wrap ((((lo + hi) / 2 : Nat) : Int) + 1))) (v := nt (((lo + hi) / 2 + 1 : Nat) : Int)) 33 (by rw [hw25]) <| Os 3 [(0, sl_ b18 o18 xs.length cap),(2, .func (.func F) #[] #[]),(4, pt b1),(8, nt (xs.length : Int)),(9, nt (((lo + hi) / 2 + 1 : Nat) : Int)),(10, nt (hi : Int))] <| OI_end rfl <| X_block ?_
   exact V_again (hi - ((lo + hi) / 2 + 1)) (by omega) [(0, sl_ b18 o18 xs.length cap),(2, .func (.func F) #[] #[]),(4, pt b1),(8, nt (xs.length : Int)),(9, nt (((lo + hi) / 2 + 1 : Nat) : Int)),(10, nt (hi : Int))] rfl ⟨(lo + hi) / 2 + 1, hi, by omega, by omega, by omega, fun j y hj hy => hm j ((lo + hi) / 2) y x19 (by omega) hy hx20 hc24, haft, hk5, rfl⟩
  refine V_region <| Os 2 [(0, sl_ b18 o18 xs.length cap),(2, .func (.func F) #[] #[]),(4, pt b1),(8, nt (xs.length : Int)),(9, nt (lo : Int)),(10, nt (((lo + hi) / 2 : Nat) : Int))] <| OI_end rfl <| X_block ?_
  exact V_again ((lo + hi) / 2 - lo) (by omega) [(0, sl_ b18 o18 xs.length cap),(2, .func (.func F) #[] #[]),(4, pt b1),(8, nt (xs.length : Int)),(9, nt (lo : Int)),(10, nt (((lo + hi) / 2 : Nat) : Int))] rfl ⟨lo, (lo + hi) / 2, by omega, by omega, by omega, hbef, fun j y hj hy hlt => hc24 (hm ((lo + hi) / 2) j x19 y (by omega) hx20 hy hlt), hk5, rfl⟩
 refine V_exit <| X_exit_then <| X_exit_then <| X_exit_here <| X_then <| V_seq <| Vd1 (acts [11]) none_ [1, 2, 3, 4, 5, 6, 7, 8, 9, 10, 11, 0, 12, 13, 14, 15] fun w27 hk26 he28 K31 _ => ?_
 replace hb1 := hb1.k0 hk26
 replace hA := hA.keep0 hk26
 replace hK0 := hK0.tn hk26
 have qhb1 := hb1
 refine Gn [5, 6, 7, 8, 9, 10, 11, 0, 12, 13, 14, 15] [0, 2, 4, 9, 39] ?_
 by_cases hg32 : (lo : Int) < (xs.length : Int)
 ·
  refine Et 39 hg32 <| Gn [8, 9, 10, 11, 0, 12, 13, 14, 15] [4, 9, 39, 40, 41, 42] ?_
  obtain ⟨b33, o33, L33, T33, rfl, hat33⟩ := SlT.opn hA
  have hb33lt := hat33.blk.lt
  refine Gi (b := b33) (o := o33) (len := xs.length) (cap := cap) (j := lo) 203 8 64 .i64 ?_
  obtain ⟨x34, hx35⟩ := exAt (xs := xs) (i := lo)
  refine Ma (o33 + lo * 8) (Ci.cells x34) 8 hat33.blk id (At.elem' hat33 (es_at hx35)) (At.len hat33 (es_at hx35)) <| Ma 0 kl 2 qhb1 id (take_all hkl) hkl <| GI_call0 { callee := (Callee.value (Operand.tmp 40)), args := #[(Operand.tmp 44),(Operand.tmp 45)], argTypes := #[203, 61] } F #[.agg (Ci.cells x34).toArray, .agg kl.toArray] (some 46) (by kernel_rfl) (by kernel_rfl) (by kernel_rfl) (by kernel_rfl) hb (hF x34 _) ?_
  rintro _ w36 ⟨rfl, hk37⟩
  refine ⟨_, rfl, ?_⟩
  have hsz38 := Keep.size hk37
  replace hK0 := hK0.tn hk37
  refine Gn [] [6, 7] <| GI_end <| X_then <| V_ret ?_
  have hlh : lo = hi := by omega
  subst hlh
  exact Xr (.tuple #[nt (lo : Int), .bool (decide (ord x34 = 0))]) ⟨lo, _, rfl, hK0, by omega, hbef, haft, (by rw [hx35])⟩
 refine Ef 39 hg32 <| Gn [] [6, 7] <| GI_end <| X_then <| V_ret ?_
 have hlh : lo = hi := by omega
 subst hlh
 exact Xr (.tuple #[nt (lo : Int), .bool false]) ⟨lo, _, rfl, hK0, by omega, hbef, haft, (by rw [List.getElem?_eq_none (by omega)])⟩
end Go.Al.GV
namespace Go.Al.GV
open Go Go.RowKit Go.Proofs
theorem clone_nil (w : World) : Calls Tryz.prog 113 #[.slice none 0 0] w fun e w' => e = .returned (.slice none 0 0) ∧ w' = w := by
 refine eV ?_
 refine Vr <| On 1 [0] <| Oe <| V_seq <| Vn [0, 4] <| Vo <| Vs [(2, .slice none 0 0)] <| Rt ?_
 exact X_return _ rfl ⟨rfl, rfl⟩
theorem clone_at (b o cap : Nat) (L : List Value) (T : TypeId) (xs : List Ci) (w : World) (h : At w b o L T 8 cap (xs.map Ci.cells)) (hn : xs.length ≤ 1000000) : Calls Tryz.prog 113 #[sl_ b o xs.length cap] w fun e w' => ∃ A' cap', e = .returned (.slice A' xs.length cap') ∧ SlT w' 8 Ci.cells A' cap' xs ∧ Keep none_ w w' ∧ (∀ k, inA A' k → w.heap.size ≤ k) := by
 have hblt := h.blk.lt
 have hK0 := Keep.refl none_ w
 refine eV ?_
 refine Vr <| On 1 [0] <| Oe <| V_seq <| Vn [0, 4] <| Vf <| Vsk <| Vr <| OI_slit (E := 203) (zv := .agg #[nt 0, nt 0, nt 0, .bool false, nt 0, nt 0, nt 0, nt 0]) (sz := 8) (by_ := 64) 192 0 #[] [] [] (some 5) (by kernel_rfl) (by kernel_rfl) (by kernel_rfl) (by omega) rfl (by omega) (by intro v hv; cases hv) (by kernel_rfl) rfl ?_
 intro b1 w1 e1 hb1 k1 z1
 have hsz2 := Keep.size k1
 replace h := h.k0 k1
 replace hK0 := hK0.tn k1
 have hb1lt := hb1.lt
 refine Os 2 [(5, sl_ b1 0 0 0),(6, sl_ b o xs.length cap)] <| OI_append (t := 192) (at2 := 192) (E := 203) (E2 := 203) (sz := 8) (by_ := 64) (zv := .agg #[nt 0, nt 0, nt 0, .bool false, nt 0, nt 0, nt 0, nt 0]) (m := 0) (k := xs.length) (.tmp 5) (.tmp 6) (sl_ b1 0 0 0) (sl_ b o xs.length cap) (some 7) (by kernel_rfl) (by kernel_rfl) (by kernel_rfl) (by kernel_rfl) (by kernel_rfl) (by kernel_rfl) (by kernel_rfl) (SlT.slr (slt_blk (f := Ci.cells) (xs := []) hb1 Ci.len rfl)) (SlT.slr (At.slt h)) (one_flat Ci.one) (by omega) (by omega) (by omega) (by omega) ?_
 intro v w9 hap
 obtain ⟨A9, cap9, rfl, h9, hin⟩ := SlT.of (xs := xs) hap.holds (by omega) (by simp) (fun x _ => Ci.len x)
 have hk9 : Keep (only b1) w1 w9 := hap.keep
 have hown : ∀ k, inA A9 k → w.heap.size ≤ k := fun k hk => by rcases hap.own k (hin k hk) with h | h; (have h : k = b1 := h; omega); omega
 have hsz3 := Keep.size hk9
 replace hK0 := Keep.fr hK0 hk9
 refine Op_ [(7, .slice A9 (0 + xs.length) cap9)] <| Oq (u := .slice A9 (0 + xs.length) cap9) (v := .slice A9 xs.length cap9) 7 (by rw [Nat.zero_add]) <| Ose [(2, .slice A9 xs.length cap9)] <| V_ret ?_
 exact X_return _ rfl ⟨A9, cap9, rfl, h9, hK0, hown⟩
theorem clone_spec (A : Option Addr) (cap : Nat) (xs : List Ci) (w : World) (hA : SlT w 8 Ci.cells A cap xs) (hn : xs.length ≤ 1000000) : Calls Tryz.prog 113 #[.slice A xs.length cap] w fun e w' => ∃ A' cap', e = .returned (.slice A' xs.length cap') ∧ SlT w' 8 Ci.cells A' cap' xs ∧ Keep none_ w w' ∧ (∀ k, inA A' k → w.heap.size ≤ k) := by
  rcases Nat.eq_zero_or_pos xs.length with h0 | h0
  · obtain rfl := List.length_eq_zero_iff.1 h0
    rcases hA with ⟨rfl, rfl, _⟩ | ⟨b, o, L, T, rfl, h1, h2, h3, h4, h5⟩
    · exact (clone_nil w).mono (by rintro e w' ⟨rfl, rfl⟩; exact ⟨none, 0, rfl, SlT.nil _ _ _, Keep.refl _ _, fun k hk => (inA_none hk).elim⟩)
    · exact clone_at b o cap L T [] w ⟨h1, h2, h3, h4, h5⟩ hn
  · obtain ⟨b, o, L, T, rfl, h⟩ := hA.open_ h0
    exact clone_at b o cap L T xs w h hn
theorem insert_nil (vb : Nat) (x : Ci) (w : World) (hv : Blk w vb (Ci.cells x) 203) : Calls Tryz.prog 114 #[.slice none 0 0, nt 0, sl_ vb 0 1 1] w fun e w' => ∃ A' cap', e = .returned (.slice A' 1 cap') ∧ SlT w' 8 Ci.cells A' cap' [x] ∧ Keep none_ w w' ∧ (∀ k, inA A' k → w.heap.size ≤ k) := by
 have hvblt := hv.lt
 have hK0 := Keep.refl none_ w
 refine eV ?_
 refine Vr <| On 1 [0, 1, 2] <| Oer <| On 2 [0, 1, 2, 10, 11] <| OI_pure (some 12) ((Op.slice 192 (Operand.tmp 10) (some (Operand.tmp 11)) none none)) (by kernel_rfl) (pure_slice (E := 203) (sz := 8) (by_ := 64) (base := none) (len := 0) (cap := 0) (lo := (some (.tmp 11))) (hi := none) (l := 0) (h := 0) (by kernel_rfl) (by kernel_rfl) ⟨.i64, by kernel_rfl⟩ rfl (by omega) (by omega)) <| Op_ [(0, .slice none 0 0),(1, nt 0),(2, sl_ vb 0 1 1)] <| Oer <| On 3 [0, 1, 2, 7] <| Oe <| V_seq <| Vn [0, 1, 2, 7, 16] <| Vf <| Vsk <| Vr <| On 3 [0, 1, 2, 7, 8] <| Oe <| V_seq <| Vn [0, 1, 2, 7, 8, 22] <| Vo <| Vr <| Os 2 [(23, .slice none 0 0),(24, sl_ vb 0 1 1)] <| OI_append (t := 192) (at2 := 192) (E := 203) (E2 := 203) (sz := 8) (by_ := 64) (zv := .agg #[nt 0, nt 0, nt 0, .bool false, nt 0, nt 0, nt 0, nt 0]) (m := 0) (k := 1) (.tmp 23) (.tmp 24) (.slice none 0 0) (sl_ vb 0 1 1) (some 25) (by kernel_rfl) (by kernel_rfl) (by kernel_rfl) (by kernel_rfl) (by kernel_rfl) (by kernel_rfl) (by kernel_rfl) (.inl ⟨rfl, rfl, rfl⟩) (slr_one hv (Ci.len _)) (Ci.one _) (by omega) (by omega) (by omega) (by omega) ?_
 intro v w9 hap
 obtain ⟨A9, cap9, rfl, h9, hin⟩ := SlT.of (xs := [x]) hap.holds rfl (by simp) (fun x _ => Ci.len x)
 have hk9 : Keep none_ w w9 := hap.keep
 have hown : ∀ k, inA A9 k → w.heap.size ≤ k := fun k hk => by rcases hap.own k (hin k hk) with h | h; exact h.elim; exact h
 have hsz1 := Keep.size hk9
 replace hK0 := hK0.tn hk9
 refine Op_ [(25, .slice A9 (0 + 1) cap9)] <| Oq (u := .slice A9 (0 + 1) cap9) (v := .slice A9 1 cap9) 25 (by rw [Nat.zero_add]) <| Ose [(6, .slice A9 1 cap9)] <| Rt ?_
 exact X_return _ rfl ⟨A9, cap9, rfl, h9, hK0, hown⟩
theorem insert_at (b o cap vb i : Nat) (L : List Value) (T : TypeId) (xs : List Ci) (x : Ci) (w : World) (h : At w b o L T 8 cap (xs.map Ci.cells)) (hv : Blk w vb (Ci.cells x) 203) (hne : vb ≠ b) (hi : i ≤ xs.length) (hn : xs.length ≤ 1000000) : Calls Tryz.prog 114 #[sl_ b o xs.length cap, nt (i : Int), sl_ vb 0 1 1] w fun e w' => ∃ A' cap', e = .returned (.slice A' (xs.length + 1) cap') ∧ SlT w' 8 Ci.cells A' cap' (xs.take i ++ x :: xs.drop i) ∧ Keep (only b) w w' ∧ (∀ k, inA A' k → k = b ∨ w.heap.size ≤ k) := by
 have hblt := h.blk.lt
 have hvblt := hv.lt
 have hle : xs.length ≤ cap := by simpa using h.le
 have hK0 : Keep (only b) w w := Keep.refl _ _
 refine eV ?_
 refine Vr <| On 1 [0, 1, 2] <| Oer <| On 2 [0, 1, 2, 10, 11] <| OI_pure (some 12) ((Op.slice 192 (Operand.tmp 10) (some (Operand.tmp 11)) none none)) (by kernel_rfl) (pure_slice (E := 203) (sz := 8) (by_ := 64) (base := (some ⟨b, o, none⟩)) (len := xs.length) (cap := cap) (lo := (some (.tmp 11))) (hi := none) (l := i) (h := xs.length) (by kernel_rfl) (by kernel_rfl) ⟨.i64, by kernel_rfl⟩ rfl (by omega) (by omega)) <| Op_ [(0, sl_ b o xs.length cap),(1, nt (i : Int)),(2, sl_ vb 0 1 1)] <| Oer <| On 3 [0, 1, 2, 7] <| Oe <| V_seq <| Vn [0, 1, 2, 7, 16] <| Vf <| Vsk <| Vr <| On 3 [0, 1, 2, 7, 8] <| Oe <| V_seq <| Vn [0, 1, 2, 7, 8, 22] <| Vi ((i : Int) = (xs.length : Int)) (fun hc1 => ?_) (fun hc1 => ?_)
 ·
  refine Vr <| On 2 [23, 24] ?_
  obtain rfl : i = xs.length := by omega
  refine OI_append (t := 192) (at2 := 192) (E := 203) (E2 := 203) (sz := 8) (by_ := 64) (zv := .agg #[nt 0, nt 0, nt 0, .bool false, nt 0, nt 0, nt 0, nt 0]) (m := xs.length) (k := 1) (.tmp 23) (.tmp 24) (sl_ b o xs.length cap) (sl_ vb 0 1 1) (some 25) (by kernel_rfl) (by kernel_rfl) (by kernel_rfl) (by kernel_rfl) (by kernel_rfl) (by kernel_rfl) (by kernel_rfl) (SlT.slr (At.slt h)) (slr_one hv (Ci.len _)) (Ci.one _) (by omega) (by omega) (by omega) (by omega) ?_
  intro v w9 hap
  obtain ⟨A9, cap9, rfl, h9, hin⟩ := SlT.of (xs := xs.take xs.length ++ x :: xs.drop xs.length) hap.holds (by simp) (by simp) (fun x _ => Ci.len x)
  have hk9 : Keep (only b) w w9 := hap.keep
  have hown : ∀ k, inA A9 k → k = b ∨ w.heap.size ≤ k := fun k hk => hap.own k (hin k hk)
  have hsz2 := Keep.size hk9
  replace hK0 := Keep.fr hK0 hk9
  refine Ose [(6, .slice A9 (xs.length + 1) cap9)] <| Rt ?_
  exact X_return _ rfl ⟨A9, cap9, rfl, h9, hK0, hown⟩
 refine Vsk <| V_seq <| Vr ?_
 have hw3 : i64.wrap ((xs.length : Int) + 1) = ((xs.length + 1 : Nat) : Int) := wrp
 refine On 3 [0, 1, 2, 7, 8, 28] <| Oq (u := nt (i64.wrap ((xs.length : Int) + 1))) (v := nt ((xs.length + 1 : Nat) : Int)) 28 (by rw [hw3]) <| Oen [0, 1, 2, 7, 8, 31] <| Vi (((xs.length + 1 : Nat) : Int) > (cap : Int)) (fun hc4 => ?_) (fun hc4 => ?_)
 ·
  refine Vr <| On 2 [0, 1, 2, 7, 8, 32, 33] <| Ost (base := (some ⟨b, o, none⟩)) (len := xs.length) (cap := cap) (j := i) 203 8 64 ?_
  have hw5 : i64.wrap ((xs.length : Int) + 1) = ((xs.length + 1 : Nat) : Int) := wrp
  refine On 6 [0, 1, 2, 7, 34, 37] <| Oq (u := nt (i64.wrap ((xs.length : Int) + 1))) (v := nt ((xs.length + 1 : Nat) : Int)) 37 (by rw [hw5]) ?_
  have hw6 : i64.wrap (((xs.length + 1 : Nat) : Int) - (i : Int)) = ((xs.length + 1 - i : Nat) : Int) := wrp
  refine On 8 [0, 1, 2, 7, 34, 39] <| Oq (u := nt (i64.wrap (((xs.length + 1 : Nat) : Int) - (i : Int)))) (v := nt ((xs.length + 1 - i : Nat) : Int)) 39 (by rw [hw6]) <| OI_appmake (t := 192) (E := 203) (at2 := 3) (sz := 8) (by_ := 64) (m := i) (k := xs.length + 1 - i) (N := xs.length + 1) (kd := .i64) (zv := .agg #[nt 0, nt 0, nt 0, .bool false, nt 0, nt 0, nt 0, nt 0]) (s := sl_ b o i cap) (base := some ⟨b, o, none⟩) (cap := cap) (.tmp 34) (.tmp 39) (some 40) (by kernel_rfl) (by kernel_rfl) (by kernel_rfl) (by kernel_rfl) (by kernel_rfl) (by kernel_rfl) rfl (At.prefT h hi) (by omega) (by omega) (by omega) (by omega) (by kernel_rfl) (by omega) ?_
  intro b9 nc zs w9 hb9 hnc hzs hB9 hk9 hz9
  have hsz7 := Keep.size hk9
  replace hv := hv.k0 hk9
  replace h := h.k0 hk9
  replace hK0 := hK0.tn hk9
  have hb9lt := hB9.lt
  obtain ⟨g1, g2, g3, g4, g5⟩ := grow_cells (sz := 8) (n := xs.length) (i := i) (nc := nc) (c := Ci.cells x) (zs := zs) (es := xs.map Ci.cells) h.sizes (by simp) hi (by omega) (Ci.len x) hzs
  refine On 10 [0, 1, 2, 7, 9] <| Oer <| On 2 [0, 1, 2, 7, 9, 41, 42] <| Osf (b := b9) (o := 0) (len := xs.length + 1) (cap := nc) (j := i) 203 8 64 <| Os 4 [(0, sl_ b o xs.length cap),(1, nt (i : Int)),(7, nt 1),(9, sl_ b9 0 (xs.length + 1) nc),(43, .slice (some ⟨b9, 0 + i * 8, none⟩) (xs.length + 1 - i) (nc - i)),(44, sl_ vb 0 1 1)] <| OI_turn (some 45) ((Op.call { callee := (Callee.builtin Builtin.copy), args := #[(Operand.tmp 43),(Operand.tmp 44)], argTypes := #[192, 192] })) (by kernel_rfl) (Blk.lt hB9) (copy_run (t := 192) (E := 203) (at2 := 192) (sz := 8) (by_ := 64) (b := b9) (o := 0 + i * 8) (dl := xs.length + 1 - i) (dc := nc - i) (k := 1) (m := 1) (cells := Ci.cells x) (x := (.tmp 43)) (y := (.tmp 44)) (by kernel_rfl) (by kernel_rfl) hB9 (slr_one hv (Ci.len _)) (by omega) (by omega) (fun u hu => Ci.one _ u (List.mem_of_mem_take hu))) ?_
  intro w8 hB9 hk9 hz10
  replace hB9 : Blk w8 b9 (over (((xs.map Ci.cells).take i).flatten ++ zs) (i * 8) (Ci.cells x)) 203 := by rwa [show (Ci.cells x).take (1 * 8) = Ci.cells x from List.take_of_length_le (by rw [Ci.len]; omega), Nat.zero_add] at hB9
  have hsz11 := Keep.size hk9
  replace h := h.k1 hk9
  replace hK0 := Keep.fr hK0 hk9
  refine Oe <| V_seq <| Vd1 (acts [8]) (only b9) [0, 1, 2, 3, 4, 5, 6, 7, 8] fun w13 hk12 he14 K17 _ => ?_
  replace hB9 := hB9.k0 hk12
  replace h := h.k0 hk12
  replace hK0 := hK0.tn hk12
  have hw18 : i64.wrap ((i : Int) + 1) = ((i + 1 : Nat) : Int) := wrp
  refine Gn [4, 5, 6, 7, 8] [0, 1, 9, 46, 49] <| Gq_ (u := nt (i64.wrap ((i : Int) + 1))) (v := nt ((i + 1 : Nat) : Int)) 49 (by rw [hw18]) <| Gsf (b := b9) (o := 0) (len := xs.length + 1) (cap := nc) (j := i + 1) 203 8 64 <| Gs [7, 8] [(9, sl_ b9 0 (xs.length + 1) nc),(50, .slice (some ⟨b9, 0 + (i + 1) * 8, none⟩) (xs.length + 1 - (i + 1)) (nc - (i + 1))),(51, sl_ b o xs.length cap),(52, nt (i : Int))] <| Gsf (b := b) (o := o) (len := xs.length) (cap := cap) (j := i) 203 8 64 <| GI_final 8 (by kernel_rfl) (by kernel_rfl) <| OI_turn (some 54) ((Op.call { callee := (Callee.builtin Builtin.copy), args := #[(Operand.tmp 50),(Operand.tmp 53)], argTypes := #[192, 192] })) (by kernel_rfl) (Blk.lt hB9) (copy_run (t := 192) (E := 203) (at2 := 192) (sz := 8) (by_ := 64) (b := b9) (o := 0 + (i + 1) * 8) (dl := xs.length + 1 - (i + 1)) (dc := nc - (i + 1)) (k := xs.length - i) (m := xs.length - i) (cells := ((xs.map Ci.cells).drop i).flatten) (x := (.tmp 50)) (y := (.tmp 53)) (by kernel_rfl) (by kernel_rfl) hB9 (At.suffT h hi) (by omega) (by omega) (fun u hu => one_flatten Ci.one u (by rw [List.map_drop]; exact List.mem_of_mem_take hu))) ?_
  intro w19 hB9 hk20 hz21
  replace hB9 : Blk w19 b9 (over (over (((xs.map Ci.cells).take i).flatten ++ zs) (i * 8) (Ci.cells x)) ((i + 1) * 8) ((xs.map Ci.cells).drop i).flatten) 203 := by rwa [show ((xs.map Ci.cells).drop i).flatten.take ((xs.length - i) * 8) = ((xs.map Ci.cells).drop i).flatten from List.take_of_length_le (by omega), Nat.zero_add] at hB9
  have hsz22 := Keep.size hk20
  replace hK0 := Keep.fr hK0 hk20
  refine Oer <| Ose [(6, sl_ b9 0 (xs.length + 1) nc)] <| Rt ?_
  exact X_return _ rfl ⟨_, nc, rfl, ins_slt hB9 hi (by omega) (by rw [g3, g4]; omega) (by rw [List.length_map]; exact g2) Ci.len, hK0, fun k hk => .inr (by rw [inA_some hk]; omega)⟩
 refine Vsk <| Vr ?_
 have hw23 : i64.wrap ((xs.length : Int) + 1) = ((xs.length + 1 : Nat) : Int) := wrp
 refine On 4 [1, 2, 7, 8, 56, 59] <| Oq (u := nt (i64.wrap ((xs.length : Int) + 1))) (v := nt ((xs.length + 1 : Nat) : Int)) 59 (by rw [hw23]) <| Ost (base := (some ⟨b, o, none⟩)) (len := xs.length) (cap := cap) (j := xs.length + 1) 203 8 64 <| On 6 [0, 1, 2, 7, 8] <| Oe <| V_seq <| Vr ?_
 have hw24 : i64.wrap ((i : Int) + 1) = ((i + 1 : Nat) : Int) := wrp
 refine Os 5 [(0, sl_ b o (xs.length + 1) cap),(1, nt (i : Int)),(2, sl_ vb 0 1 1),(7, nt 1),(8, nt (xs.length : Int)),(61, sl_ vb 0 1 1),(62, sl_ b o (xs.length + 1) cap),(65, nt (i64.wrap ((i : Int) + 1)))] <| Oq (u := nt (i64.wrap ((i : Int) + 1))) (v := nt ((i + 1 : Nat) : Int)) 65 (by rw [hw24]) <| Osf (b := b) (o := o) (len := xs.length + 1) (cap := cap) (j := i + 1) 203 8 64 <| OI_value (d := some 67) (op := (Op.call (kl 163 #[(.tmp 61),(.tmp 66)] #[192, 192]))) (v := .bool false) (by kernel_rfl) (overlaps_run (f := 163) (fn := Tryz.f163) (tS := 192) (tR := 4) (E := 203) (sz := 8) (by_ := 64) (vb := vb) (vo := 0) (b := b) (o := o + (i + 1) * 8) (la := 1) (ca := 1) (lb := xs.length + 1 - (i + 1)) (cb := cap - (i + 1)) rfl (by kernel_rfl) (by kernel_rfl) (by kernel_rfl) (by kernel_rfl) (by kernel_rfl) (by kernel_rfl) hne hv (At.blk h) (by intro hL; have := h.room; rw [hL] at this; simp at this; omega)) <| Oen [0, 1, 2, 7, 8, 68] <| Vo <| V_seq <| Vd1 (acts [8]) (only b) [0, 1, 2, 3, 4, 5, 6, 7, 8] fun w26 hk25 he27 K30 _ => ?_
 replace hv := hv.k0 hk25
 replace h := h.k0 hk25
 replace hK0 := hK0.tn hk25
 have hw31 : i64.wrap ((i : Int) + 1) = ((i + 1 : Nat) : Int) := wrp
 refine Gn [4, 5, 6, 7, 8] [0, 1, 2, 69, 72] <| Gq_ (u := nt (i64.wrap ((i : Int) + 1))) (v := nt ((i + 1 : Nat) : Int)) 72 (by rw [hw31]) <| Gsf (b := b) (o := o) (len := xs.length + 1) (cap := cap) (j := i + 1) 203 8 64 <| Gs [7, 8] [(0, sl_ b o (xs.length + 1) cap),(1, nt (i : Int)),(2, sl_ vb 0 1 1),(73, .slice (some ⟨b, o + (i + 1) * 8, none⟩) (xs.length + 1 - (i + 1)) (cap - (i + 1))),(74, sl_ b o (xs.length + 1) cap),(75, nt (i : Int))] <| Gsf (b := b) (o := o) (len := xs.length + 1) (cap := cap) (j := i) 203 8 64 <| GI_final 8 (by kernel_rfl) (by kernel_rfl) ?_
 obtain ⟨g1, g2, g3⟩ := ins_cells (i := i) (c := Ci.cells x) h (by simp; omega) (by simp; omega) (Ci.len x)
 have hdc := h.dropcells (i := i)
 have hroom := h.room
 rw [List.length_map] at g1 g2 g3 hdc
 have hdl : ((L.drop (o + i * 8)).take ((xs.length + 1 - i) * 8)).take ((xs.length - i) * 8) = (L.drop (o + i * 8)).take ((xs.length - i) * 8) := by rw [List.take_take, Nat.min_eq_left (by omega)]
 refine OI_turn (some 77) ((Op.call { callee := (Callee.builtin Builtin.copy), args := #[(Operand.tmp 73),(Operand.tmp 76)], argTypes := #[192, 192] })) (by kernel_rfl) (Blk.lt (At.blk h)) (copy_run (t := 192) (E := 203) (at2 := 192) (sz := 8) (by_ := 64) (b := b) (o := o + (i + 1) * 8) (dl := xs.length + 1 - (i + 1)) (dc := cap - (i + 1)) (k := xs.length + 1 - i) (m := xs.length - i) (cells := (L.drop (o + i * 8)).take ((xs.length + 1 - i) * 8)) (x := (.tmp 73)) (y := (.tmp 76)) (by kernel_rfl) (by kernel_rfl) (At.blk h) (slr_blk (At.blk h) (by omega) (by omega)) (by omega) (by omega) (fun u hu => one_flatten (xs := xs.drop i) Ci.one u (by rw [List.map_drop, ← hdc, ← hdl]; exact hu))) ?_
 intro w32 hB hk33 hz34
 replace hB : Blk w32 b (over L (o + (i + 1) * 8) ((L.drop (o + i * 8)).take ((xs.length - i) * 8))) T := by rwa [hdl] at hB
 have hsz35 := Keep.size hk33
 replace hv := hv.k1 hk33
 replace hK0 := Keep.fr hK0 hk33
 refine Oer <| On 2 [0, 2, 78, 79] <| Osf (b := b) (o := o) (len := xs.length + 1) (cap := cap) (j := i) 203 8 64 <| Os 4 [(0, sl_ b o (xs.length + 1) cap),(80, .slice (some ⟨b, o + i * 8, none⟩) (xs.length + 1 - i) (cap - i)),(81, sl_ vb 0 1 1)] <| OI_turn (some 82) ((Op.call { callee := (Callee.builtin Builtin.copy), args := #[(Operand.tmp 80),(Operand.tmp 81)], argTypes := #[192, 192] })) (by kernel_rfl) (Blk.lt hB) (copy_run (t := 192) (E := 203) (at2 := 192) (sz := 8) (by_ := 64) (b := b) (o := o + i * 8) (dl := xs.length + 1 - i) (dc := cap - i) (k := 1) (m := 1) (cells := Ci.cells x) (x := (.tmp 80)) (y := (.tmp 81)) (by kernel_rfl) (by kernel_rfl) hB (slr_one hv (Ci.len _)) (by omega) (by omega) (fun u hu => Ci.one _ u (List.mem_of_mem_take hu))) ?_
 intro w36 hB hk37 hz38
 replace hB : Blk w36 b (over (over L (o + (i + 1) * 8) ((L.drop (o + i * 8)).take ((xs.length - i) * 8))) (o + i * 8) (Ci.cells x)) T := by rwa [show (Ci.cells x).take (1 * 8) = Ci.cells x from List.take_of_length_le (by rw [Ci.len]; omega)] at hB
 have hsz39 := Keep.size hk37
 replace hK0 := Keep.fr hK0 hk37
 refine Oer <| Ose [(6, sl_ b o (xs.length + 1) cap)] <| Rt ?_
 exact X_return _ rfl ⟨_, cap, rfl, ins_slt hB hi (by omega) (by rw [g3]; omega) (by rw [List.length_map]; exact g2) Ci.len, hK0, fun k hk => .inl (inA_some hk)⟩
theorem insert_spec (A : Option Addr) (cap vb i : Nat) (xs : List Ci) (x : Ci) (w : World) (hA : SlT w 8 Ci.cells A cap xs) (hv : Blk w vb (Ci.cells x) 203) (hne : ¬ inA A vb) (hi : i ≤ xs.length) (hn : xs.length ≤ 1000000) : Calls Tryz.prog 114 #[.slice A xs.length cap, nt (i : Int), sl_ vb 0 1 1] w fun e w' => ∃ A' cap', e = .returned (.slice A' (xs.length + 1) cap') ∧ SlT w' 8 Ci.cells A' cap' (xs.take i ++ x :: xs.drop i) ∧ Keep (inA A) w w' ∧ (∀ k, inA A' k → inA A k ∨ w.heap.size ≤ k) := by
  rcases hA with ⟨rfl, rfl, h0⟩ | ⟨b, o, L, T, rfl, h1, h2, h3, h4, h5⟩
  · obtain rfl : xs = [] := by simpa using h0
    obtain rfl : i = 0 := by simpa using hi
    exact (insert_nil vb x w hv).mono (by rintro e w' ⟨A', cap', rfl, h1, h2, h3⟩; exact ⟨A', cap', rfl, h1, h2.ofNone, fun k hk => .inr (h3 k hk)⟩)
  · exact (insert_at b o cap vb i L T xs x w ⟨h1, h2, h3, h4, h5⟩ hv (fun h => hne ⟨_, rfl, h⟩) hi hn).mono (by
      rintro e w' ⟨A', cap', rfl, h1, h2, h3⟩
      exact ⟨A', cap', rfl, h1, h2.mono (fun k _ hk => ⟨_, rfl, hk⟩), fun k hk => (h3 k hk).imp (fun h => ⟨_, rfl, h⟩) id⟩)
end Go.Al.GV
namespace Go.Al.GV
open Go Go.RowKit Go.Proofs
def ltC (a b a' b' : Int) : Prop := a < a' ∨ (a = a' ∧ b < b')
instance (a b a' b' : Int) : Decidable (ltC a b a' b') := by unfold ltC; infer_instance
theorem ordC_neg (a b : Int) (c : Ci) : ordC a b c < 0 ↔ ltC c.a c.b a b := by
  unfold ordC ltC
  simp only [orI, cmpI]
  rcases Int.lt_trichotomy c.a a with h1 | h1 | h1 <;> rcases Int.lt_trichotomy c.b b with h2 | h2 | h2 <;> simp_all <;> (repeat' split) <;> omega
theorem ordC_zero (a b : Int) (c : Ci) : ordC a b c = 0 ↔ c.a = a ∧ c.b = b := by
  unfold ordC
  simp only [orI, cmpI]
  rcases Int.lt_trichotomy c.a a with h1 | h1 | h1 <;> rcases Int.lt_trichotomy c.b b with h2 | h2 | h2 <;> simp_all <;> (repeat' split) <;> omega
theorem ltC_trans {a b c d e f : Int} (h : ltC a b c d) (k : ltC c d e f) : ltC a b e f := by unfold ltC at *; omega
def Srt (cs : List Ci) : Prop := cs.Pairwise fun x y => ltC x.a x.b y.a y.b
theorem Srt.mono {cs : List Ci} (h : Srt cs) (a b : Int) (i j : Nat) (x y : Ci) (hij : i ≤ j) (hx : cs[i]? = some x) (hy : cs[j]? = some y) (hlt : ordC a b y < 0) : ordC a b x < 0 := by
  rw [ordC_neg] at *
  rcases Nat.lt_or_eq_of_le hij with hij | rfl
  · obtain ⟨h1, rfl⟩ := List.getElem?_eq_some_iff.1 hx
    obtain ⟨h2, rfl⟩ := List.getElem?_eq_some_iff.1 hy
    exact ltC_trans (List.pairwise_iff_getElem.1 h i j h1 h2 hij) hlt
  · rw [hx] at hy; cases hy; exact hlt
structure GrAt (w : World) (g : Nat) (A : Option Addr) (cap : Nat) (cs : List Ci) : Prop where
  blk : Blk w g [.slice A cs.length cap] 194
  sl : SlT w 8 Ci.cells A cap cs
  off : ¬ inA A g
def Gr (D : Nat → Prop) (w : World) (g : Nat) (cs : List Ci) : Prop := Srt cs ∧ cs.length ≤ 100000 ∧ ∃ A cap, GrAt w g A cap cs ∧ ∀ k, inA A k → D k
theorem place_spec (g cap : Nat) (A : Option Addr) (cs : List Ci) (a b : Int) (w : World) (h : GrAt w g A cap cs) (hs : Srt cs) (hn : cs.length ≤ 100000) : Calls Tryz.prog 110 #[pt g, nt a, nt b] w fun e w' => ∃ (i : Nat) (ok : Bool), e = .returned (.tuple #[nt (i : Int), .bool ok]) ∧ Keep none_ w w' ∧ i ≤ cs.length ∧ (∀ (j : Nat) y, j < i → cs[j]? = some y → ordC a b y < 0) ∧ (∀ (j : Nat) y, i ≤ j → cs[j]? = some y → ¬ ordC a b y < 0) ∧ ok = (match cs[i]? with | some y => decide (ordC a b y = 0) | none => false) := by
 have hg := h.blk
 have hA := h.sl
 have hglt := hg.lt
 have hK0 := Keep.refl none_ w
 refine eV ?_
 refine Vr <| On 2 [0, 1, 2] <| Oer <| On 3 [1, 2, 10] <| Lr 0 (.slice A cs.length cap) hg <| On 7 [11, 14] <| Kg (bsearch_spec A cap 160 cs [nt a, nt b] (ordC a b) _ hA rfl (by omega) (by kernel_rfl) (fun c w => place1_spec c a b w) (Srt.mono hs a b)) ?_
 rintro _ w1 ⟨i, bb, rfl, hk2, hi, hbef, haft, hbb⟩
 refine ⟨_, rfl, ?_⟩
 have hsz3 := Keep.size hk2
 replace hK0 := hK0.tn hk2
 refine Ose [(6, nt (i : Int)),(7, .bool bb)] <| V_ret ?_
 exact X_return _ rfl ⟨i, bb, rfl, hK0, hi, hbef, haft, hbb⟩
theorem new_spec (D : Nat → Prop) (w : World) : Calls Tryz.prog 57 #[] w fun e w' => ∃ g, e = .returned (pt g) ∧ Gr D w' g [] ∧ Keep none_ w w' ∧ w.heap.size ≤ g := by
 have hK0 := Keep.refl none_ w
 refine eV ?_
 refine Vr <| On 1 [] <| Oer <| On 1 [1] <| Bx 194 [.slice none 0 0] ?_
 intro b1 w1 e1 hb1 k1 z1
 have hsz2 := Keep.size k1
 replace hK0 := hK0.tn k1
 have hb1lt := hb1.lt
 refine Ose [(0, pt b1)] <| V_ret ?_
 exact X_return _ rfl ⟨_, rfl, ⟨List.Pairwise.nil, by simp, none, 0, ⟨hb1, SlT.nil _ _ _, fun h => inA_none h⟩, fun k hk => (inA_none hk).elim⟩, hK0, by omega⟩
def getC (a b : Int) : List Ci → Option Vt
  | [] => none
  | x :: l => if x.a = a ∧ x.b = b then some x.v else getC a b l
def setC (a b : Int) (v : Vt) : List Ci → List Ci
  | [] => [⟨a, b, v⟩]
  | x :: l => if x.a = a ∧ x.b = b then ⟨a, b, v⟩ :: l else if ltC x.a x.b a b then x :: setC a b v l else ⟨a, b, v⟩ :: x :: l
def delC (a b : Int) : List Ci → List Ci
  | [] => []
  | x :: l => if x.a = a ∧ x.b = b then l else x :: delC a b l
theorem none_later {a b : Int} : ∀ {l : List Ci}, (∀ y ∈ l, ltC a b y.a y.b) → getC a b l = none ∧ delC a b l = l
  | [], _ => ⟨rfl, rfl⟩
  | y :: l, h => by
    have hy := h y (List.mem_cons_self ..)
    have hne : ¬ (y.a = a ∧ y.b = b) := by unfold ltC at hy; omega
    obtain ⟨h1, h2⟩ := none_later (fun z hz => h z (List.mem_cons_of_mem _ hz))
    exact ⟨by simp only [getC, if_neg hne, h1], by simp only [delC, if_neg hne, h2]⟩
theorem place_at {a b : Int} : ∀ (cs : List Ci) (i : Nat), Srt cs → i ≤ cs.length → (∀ (j : Nat) y, j < i → cs[j]? = some y → ordC a b y < 0) → (∀ (j : Nat) y, i ≤ j → cs[j]? = some y → ¬ ordC a b y < 0) →
    (∃ y, cs[i]? = some y ∧ ordC a b y = 0 ∧ y.a = a ∧ y.b = b ∧ getC a b cs = some y.v ∧ (∀ v, cs.set i ⟨a, b, v⟩ = setC a b v cs) ∧ cs.take i ++ cs.drop (i + 1) = delC a b cs) ∨
    ((∀ y, cs[i]? = some y → ordC a b y ≠ 0) ∧ getC a b cs = none ∧ (∀ v, cs.take i ++ ⟨a, b, v⟩ :: cs.drop i = setC a b v cs) ∧ delC a b cs = cs)
  | [], i, _, hi, _, _ => by
    obtain rfl : i = 0 := by simpa using hi
    right; exact ⟨fun y hy => by simp at hy, rfl, fun v => rfl, rfl⟩
  | x :: l, 0, hs, _, _, h2 => by
    have hx := h2 0 x (Nat.le_refl _) rfl
    have hs := List.pairwise_cons.1 hs
    by_cases h0 : ordC a b x = 0
    · left
      have he := (ordC_zero a b x).1 h0
      exact ⟨x, rfl, h0, he.1, he.2, by simp only [getC, if_pos he], fun v => by simp only [List.set_cons_zero, setC, if_pos he], by simp only [delC, if_pos he]; simp⟩
    · right
      have hne : ¬ (x.a = a ∧ x.b = b) := fun h => h0 ((ordC_zero a b x).2 h)
      have hnl : ¬ ltC x.a x.b a b := fun h => hx ((ordC_neg a b x).2 h)
      have hgt : ltC a b x.a x.b := by unfold ltC at *; omega
      obtain ⟨h3, h4⟩ := none_later (a := a) (b := b) (l := l) (fun y hy => ltC_trans hgt (hs.1 y hy))
      refine ⟨fun y hy => by simp at hy; subst hy; exact h0, by simp only [getC, if_neg hne, h3], fun v => by simp only [setC, if_neg hne, if_neg hnl]; simp, by simp only [delC, if_neg hne, h4]⟩
  | x :: l, i + 1, hs, hi, h1, h2 => by
    have hx := h1 0 x (Nat.succ_pos _) rfl
    have hlt := (ordC_neg a b x).1 hx
    have hne : ¬ (x.a = a ∧ x.b = b) := by unfold ltC at hlt; omega
    have hs := List.pairwise_cons.1 hs
    rcases place_at l i hs.2 (by simpa using hi) (fun j y hj hy => h1 (j + 1) y (by omega) (by simpa using hy)) (fun j y hj hy => h2 (j + 1) y (by omega) (by simpa using hy)) with ⟨y, g1, g2, g3, g4, g5, g6, g7⟩ | ⟨g1, g2, g3, g4⟩
    · left; exact ⟨y, by simpa using g1, g2, g3, g4, by simp only [getC, if_neg hne, g5], fun v => by simp only [List.set_cons_succ, setC, if_neg hne, if_pos hlt, g6], by simp only [delC, if_neg hne, ← g7]; simp⟩
    · right; exact ⟨fun y hy => g1 y (by simpa using hy), by simp only [getC, if_neg hne, g2], fun v => by simp only [setC, if_neg hne, if_pos hlt, ← g3 v]; simp, by simp only [delC, if_neg hne, g4]⟩
theorem get_spec (D : Nat → Prop) (g : Nat) (cs : List Ci) (a b : Int) (w : World) (h : Gr D w g cs) : Calls Tryz.prog 66 #[pt g, nt a, nt b] w fun e w' => e = .returned (.tuple #[.agg (Vt.cells ((getC a b cs).getD Vt.zero)).toArray, .bool (getC a b cs).isSome]) ∧ Keep none_ w w' := by
 obtain ⟨hs, hlen, A, cap, h, _⟩ := h
 have hgA := h.off
 have hg := h.blk
 have hA := h.sl
 have hglt := hg.lt
 have hltA := SlT.lt hA
 have hK0 := Keep.refl none_ w
 refine enterM Tryz.func66 rfl [pt g, nt a, nt b] 30 rfl rfl rfl ?_
 refine Vp [(0, pt g),(1, nt a),(2, nt b)] <| Vr <| Alc_ 67 (.agg #[nt 0, .bool false, nt 0, nt 0, nt 0, nt 0]) [nt 0, .bool false, nt 0, nt 0, nt 0, nt 0] ?_
 intro b1 w1 e1 hb1 k1 z1
 have hsz2 := Keep.size k1
 replace hg := hg.k0 k1
 replace hA := hA.keep0 k1
 replace hK0 := hK0.tn k1
 have hb1lt := hb1.lt
 refine On 2 [0, 1, 2, 6] <| Oe <| V_seq <| Vn [0, 1, 2, 6, 10] <| Vf <| Vsk <| Vr <| On 3 [0, 6, 13, 14, 15] <| Kg (place_spec g cap A cs a b _ ⟨hg, hA, hgA⟩ hs hlen) ?_
 rintro _ w3 ⟨i, bb, rfl, hk4, hi, hbef, haft, hbb⟩
 refine ⟨_, rfl, ?_⟩
 have hsz5 := Keep.size hk4
 replace hg := hg.k0 hk4
 replace hb1 := hb1.k0 hk4
 replace hA := hA.keep0 hk4
 replace hK0 := hK0.tn hk4
 refine On 9 [0, 6, 7, 8] <| Oe <| V_seq <| Vn [0, 6, 7, 8, 19] <| Vb (bb) (fun hc6 => ?_) (fun hc6 => ?_)
 ·
  rcases place_at cs i hs hi hbef haft with ⟨y, g1, g2, g3, g4, g5, g6, g7⟩ | ⟨g1, _⟩
  rotate_left
  · exact absurd hc6 (by rw [hbb]; split <;> simp_all)
  have hilt := (List.getElem?_eq_some_iff.1 g1).1
  refine V_region <| On 3 [6, 7, 8, 22] <| Lr 0 (.slice A cs.length cap) hg <| On 5 [6, 7, 23, 24] ?_
  obtain ⟨b7, o7, L7, T7, rfl, hat7⟩ := SlT.opn hA
  have hb7lt := hat7.blk.lt
  have hob8 := hltA b7 ⟨_, rfl, rfl⟩
  refine Oi (b := b7) (o := o7) (len := cs.length) (cap := cap) (j := i) (some 25) 192 (.tmp 23) (.tmp 24) 203 8 64 .i64 <| On 7 [6, 7, 26] <| La (o7 + i * 8 + 2) (Vt.cells y.v) 6 hat7.blk (At.sub hat7 (es_at g1) (by decide) rfl) (Vt.len _) <| Sg 0 (Vt.cells y.v) hb1 (Vt.len _) (Vt.one _) ?_
  intro w9 hb1_12 hk10 hz11
  replace hb1_12 : Blk w9 b1 (Vt.cells y.v) 67 := (by rwa [over_whole (by rw [Vt.len]; rfl)] at hb1_12)
  have hsz13 := Keep.size hk10
  replace hK0 := Keep.fr hK0 hk10
  refine Oer <| La 0 (Vt.cells y.v) 6 hb1_12 (take_all (Vt.len _)) (Vt.len _) <| On 2 [6, 28, 29] <| Sg 0 (Vt.cells y.v) hb1_12 (Vt.len _) (Vt.one _) ?_
  intro w14 hb1_17 hk15 hz16
  replace hb1_17 : Blk w14 b1 (Vt.cells y.v) 67 := (by rwa [over_whole rfl] at hb1_17)
  have hsz18 := Keep.size hk15
  replace hK0 := Keep.fr hK0 hk15
  refine Ose [(6, pt b1),(7, .bool bb)] <| V_ret ?_
  exact leave0 (.tuple #[.agg (Vt.cells y.v).toArray, .bool bb]) (.inl rfl) (res_agg_tmp (m := 6) rfl rfl rfl (by kernel_rfl) hb1_17 rfl) ⟨by rw [g5, hc6]; rfl, hK0⟩
 rcases place_at cs i hs hi hbef haft with ⟨y, g1, g2, _⟩ | ⟨g1, g2, g3, g4⟩
 · exact absurd hc6 (by rw [hbb, g1]; simp [g2])
 refine Vsk <| Vr <| La 0 [nt 0, .bool false, nt 0, nt 0, nt 0, nt 0] 6 hb1 rfl rfl <| On 2 [6, 28, 29] <| OI_set (m := 6) (kd := true) 67 (.tmp 6) (.tmp 28) 0 (.agg #[nt 0, .bool false, nt 0, nt 0, nt 0, nt 0]) [nt 0, .bool false, nt 0, nt 0, nt 0, nt 0] none (by kernel_rfl) (by kernel_rfl) (by kernel_rfl) hb1 (by kernel_rfl) (by kernel_rfl) (by kernel_rfl) (Nat.le_of_ble_eq_true (by kernel_rfl)) (by simp [Value.oneCell']) ?_
 intro w19 hb1_22 hk20 hz21
 replace hb1_22 : Blk w19 b1 [nt 0, .bool false, nt 0, nt 0, nt 0, nt 0] 67 := hb1_22
 have hsz23 := Keep.size hk20
 replace hK0 := Keep.fr hK0 hk20
 refine Ose [(6, pt b1),(7, .bool bb)] <| V_ret ?_
 exact leave0 (.tuple #[.agg [nt 0, .bool false, nt 0, nt 0, nt 0, nt 0].toArray, .bool bb]) (.inl rfl) (res_agg_tmp (m := 6) rfl rfl rfl (by kernel_rfl) hb1_22 rfl) ⟨by rw [g2, hc6]; rfl, hK0⟩
theorem Srt.del {cs : List Ci} (h : Srt cs) (a b : Int) : Srt (delC a b cs) ∧ (delC a b cs).length ≤ cs.length := by
  induction cs with
  | nil => exact ⟨List.Pairwise.nil, Nat.le_refl _⟩
  | cons x l ih =>
    have h := List.pairwise_cons.1 h
    simp only [delC]
    split
    · exact ⟨h.2, by simp⟩
    · obtain ⟨h1, h2⟩ := ih h.2
      refine ⟨List.pairwise_cons.2 ⟨fun y hy => h.1 y ?_, h1⟩, by simpa using h2⟩
      have hsub : ∀ l : List Ci, ∀ y ∈ delC a b l, y ∈ l := by
        intro l
        induction l with
        | nil => intro y hy; exact hy
        | cons z l ih =>
          intro y hy
          simp only [delC] at hy
          split at hy
          · exact List.mem_cons_of_mem _ hy
          · rcases List.mem_cons.1 hy with rfl | hy
            · exact List.mem_cons_self ..
            · exact List.mem_cons_of_mem _ (ih y hy)
      exact hsub l y hy
end Go.Al.GV
namespace Go.Al.GV
open Go Go.RowKit Go.Proofs
theorem setC_mem {a b : Int} {v : Vt} {y : Ci} : ∀ {cs : List Ci}, y ∈ setC a b v cs → (y.a = a ∧ y.b = b) ∨ y ∈ cs
  | [], h => by simp only [setC, List.mem_singleton] at h; subst h; exact .inl ⟨rfl, rfl⟩
  | x :: l, h => by
    simp only [setC] at h
    split at h
    · rcases List.mem_cons.1 h with rfl | h
      · exact .inl ⟨rfl, rfl⟩
      · exact .inr (List.mem_cons_of_mem _ h)
    · split at h
      · rcases List.mem_cons.1 h with rfl | h
        · exact .inr (List.mem_cons_self ..)
        · exact (setC_mem h).imp id (List.mem_cons_of_mem _)
      · rcases List.mem_cons.1 h with rfl | h
        · exact .inl ⟨rfl, rfl⟩
        · exact .inr h
theorem Srt.set {a b : Int} {v : Vt} : ∀ {cs : List Ci}, Srt cs → Srt (setC a b v cs) ∧ (setC a b v cs).length ≤ cs.length + 1
  | [], _ => ⟨by simp [setC, Srt], by simp [setC]⟩
  | x :: l, h => by
    have h := List.pairwise_cons.1 h
    simp only [setC]
    split
    · rename_i he
      exact ⟨List.pairwise_cons.2 ⟨fun y hy => by have := h.1 y hy; rw [he.1, he.2] at this; exact this, h.2⟩, by simp⟩
    · rename_i he
      split
      · rename_i hlt
        obtain ⟨h1, h2⟩ := Srt.set (a := a) (b := b) (v := v) h.2
        refine ⟨List.pairwise_cons.2 ⟨fun y hy => ?_, h1⟩, by simpa using h2⟩
        rcases setC_mem hy with ⟨e1, e2⟩ | hy
        · rw [e1, e2]; exact hlt
        · exact h.1 y hy
      · rename_i hnl
        have hgt : ltC a b x.a x.b := by unfold ltC at *; omega
        refine ⟨List.pairwise_cons.2 ⟨fun y hy => ?_, List.pairwise_cons.2 h⟩, by simp⟩
        rcases List.mem_cons.1 hy with rfl | hy
        · exact hgt
        · exact ltC_trans hgt (h.1 y hy)
theorem set_spec (D : Nat → Prop) (g : Nat) (cs : List Ci) (a b : Int) (v : Vt) (w : World) (h : Gr D w g cs) (hD : ∀ k, w.heap.size ≤ k → D k) (hmax : cs.length < 100000) : Calls Tryz.prog 72 #[pt g, nt a, nt b, .agg (Vt.cells v).toArray] w fun e w' => e = .returned (.tuple #[]) ∧ Gr D w' g (setC a b v cs) ∧ Keep (only g) w w' := by
 obtain ⟨hs, hlen, A, cap, h, hDA⟩ := h
 have hgA := h.off
 have hg := h.blk
 have hA := h.sl
 have hglt := hg.lt
 have hltA := SlT.lt hA
 have hK0 : Keep (only g) w w := Keep.refl _ _
 refine eV ?_
 refine Vr <| OI_box 67 (.tmp 3) (.agg (Vt.cells v).toArray) (Vt.cells v) (some 7) (by kernel_rfl) (by kernel_rfl) rfl ?_
 intro b1 w1 e1 hb1 k1 z1
 have hsz2 := Keep.size k1
 replace hg := hg.k0 k1
 replace hA := hA.keep0 k1
 replace hK0 := hK0.tn k1
 have hb1lt := hb1.lt
 refine Oe <| V_seq <| Vn [0, 1, 2, 7, 12] <| Vf <| Vsk <| Vr <| On 3 [0, 1, 2, 7, 14, 15, 16] <| Kg (place_spec g cap A cs a b _ ⟨hg, hA, hgA⟩ hs hlen) ?_
 rintro _ w7 ⟨i, bb, rfl, hk8, hi, hbef, haft, hbb⟩
 refine ⟨_, rfl, ?_⟩
 have hsz9 := Keep.size hk8
 replace hg := hg.k0 hk8
 replace hA := hA.keep0 hk8
 replace hK0 := hK0.tn hk8
 refine On 9 [0, 1, 2, 7, 8, 9] <| Oer <| On 3 [0, 1, 2, 7, 8, 9, 22] <| Lr 0 (.slice A cs.length cap) hg <| Kg (clone_spec A cap cs _ hA (by omega)) ?_
 rintro _ w12 ⟨A9, cap9, rfl, h9, hk13, hown9⟩
 refine ⟨_, rfl, ?_⟩
 have hsz14 := Keep.size hk13
 replace hg := hg.k0 hk13
 replace hb1 := hb1.k0 (hk8.tr hk13)
 replace hK0 := hK0.tn hk13
 have hlt9 := SlT.lt h9
 refine On 6 [0, 1, 2, 7, 8, 9, 10] <| Oe <| V_seq <| Vn [0, 1, 2, 7, 8, 10, 25] <| Vb (bb) (fun hc15 => ?_) (fun hc15 => ?_)
 ·
  rcases place_at cs i hs hi hbef haft with ⟨y, g1, g2, g3, g4, g5, g6, g7⟩ | ⟨g1, _⟩
  rotate_left
  · exact absurd hc15 (by rw [hbb]; split <;> simp_all)
  have hilt := (List.getElem?_eq_some_iff.1 g1).1
  refine V_region <| On 2 [0, 7, 10, 26, 27] <| La 0 (Vt.cells v) 6 hb1 (take_all (Vt.len _)) (Vt.len _) ?_
  obtain ⟨b16, o16, L16, T16, rfl, hat16⟩ := SlT.opn h9
  have hb16lt := hat16.blk.lt
  refine Oi (b := b16) (o := o16) (len := cs.length) (cap := cap9) (j := i) (some 29) 192 (.tmp 26) (.tmp 27) 203 8 64 .i64 <| On 5 [0, 10, 28, 30] <| OI_set (m := 6) (kd := true) 67 (.tmp 30) (.tmp 28) (o16 + i * 8 + 2) (.agg (Vt.cells v).toArray) (Vt.cells v) none (by kernel_rfl) (by kernel_rfl) (by kernel_rfl) (At.blk hat16) (by kernel_rfl) (by kernel_rfl) rfl (by have h1 := At.room hat16; have h2 := At.le hat16; rw [List.length_map] at h2; omega) (Vt.one v) ?_
  intro w8 hn8 hk8 hz8
  have hat8 := At.setN (y := (⟨a, b, v⟩ : Ci)) (k := 2) hat16 g1 (by show 2 + 6 ≤ 8; omega) (by simp [Ci.cells, over, g3, g4, Vt.cells]) hn8
  have hbge := hown9 b16 ⟨_, rfl, rfl⟩
  have hsz17 := Keep.size hk8
  replace hg := hg.k1 hk8
  replace hK0 := Keep.fr hK0 hk8
  refine Oe <| V_region <| Os 4 [(41, sl_ b16 o16 cs.length cap9),(43, pt g)] <| St_ 0 (sl_ b16 o16 cs.length cap9) hg ?_
  intro w18 hg_21 hk19 hz20
  replace hg_21 : Blk w18 g [sl_ b16 o16 cs.length cap9] 194 := hg_21
  have hsz22 := Keep.size hk19
  replace hat8 := hat8.keep hk19 (by show ¬ (_ = _); omega)
  replace hK0 := Keep.fr hK0 hk19
  refine OI_end rfl ?_
  obtain ⟨hs1, hs2⟩ := Srt.set (a := a) (b := b) (v := v) hs
  have hl : (setC a b v cs).length = cs.length := by rw [← g6 v]; simp
  exact X_end _ rfl ⟨rfl, ⟨hs1, by omega, _, cap9, ⟨by rw [hl]; exact hg_21, by rw [← g6 v]; exact At.slt hat8, fun h => by have := inA_some h; omega⟩, fun k hk => hD k (by have := inA_some hk; omega)⟩, hK0⟩
 rcases place_at cs i hs hi hbef haft with ⟨y, g1, g2, _⟩ | ⟨g1, g2, g3, g4⟩
 · exact absurd hc15 (by rw [hbb, g1]; simp [g2])
 refine V_region <| On 5 [0, 7, 31, 32, 35] <| La 0 (Vt.cells v) 6 hb1 (take_all (Vt.len _)) (Vt.len _) <| On 7 [0, 31, 32, 37] <| OI_slit (E := 203) (zv := .agg #[nt 0, nt 0, nt 0, .bool false, nt 0, nt 0, nt 0, nt 0]) (sz := 8) (by_ := 64) 192 1 #[(0, (Operand.tmp 37))] [.agg #[nt a, nt b, nt v.kind, .bool v.aye, nt v.level, nt v.a, nt v.n, nt v.s]] [nt a, nt b, nt v.kind, .bool v.aye, nt v.level, nt v.a, nt v.n, nt v.s] (some 38) (by kernel_rfl) (by kernel_rfl) (by kernel_rfl) (by omega) rfl (by omega) (by intro v hv; simp only [List.mem_cons, List.not_mem_nil, or_false] at hv; rcases hv with rfl <;> rfl) (by kernel_rfl) rfl ?_
 intro b23 w23 e23 hb23 k23 z23
 have hsz24 := Keep.size k23
 replace hg := hg.k0 k23
 replace h9 := h9.keep0 k23
 replace hK0 := hK0.tn k23
 have hb23lt := hb23.lt
 have hne9 : ¬ inA A9 b23 := fun hs => by have h1 := hlt9 _ hs; have h2 := hown9 _ hs; omega
 refine Kg (insert_spec A9 cap9 b23 i cs ⟨a, b, v⟩ _ h9 hb23 hne9 hi (by omega)) ?_
 rintro _ w25 ⟨A10, cap10, rfl, h10, hk26, hown10⟩
 refine ⟨_, rfl, ?_⟩
 have hsz27 := Keep.size hk26
 replace hg := hg.keep hk26 (fun hs => by have h1 := hlt9 _ hs; have h2 := hown9 _ hs; omega)
 replace hK0 := Keep.fresh hK0 hk26 (by intro i hi hs; exfalso; have h2 := hown9 i hs; omega)
 have hgA10 : ¬ inA A10 g := fun hs => by rcases hown10 _ hs with h | h; (have h2 := hown9 _ h; omega); omega
 refine On 10 [0, 10] <| Oe <| V_region <| Os 4 [(41, .slice A10 (cs.length + 1) cap10),(43, pt g)] <| St_ 0 (.slice A10 (cs.length + 1) cap10) hg ?_
 intro w28 hg_31 hk29 hz30
 replace hg_31 : Blk w28 g [.slice A10 (cs.length + 1) cap10] 194 := hg_31
 have hsz32 := Keep.size hk29
 replace h10 := h10.keep hk29 (fun k hk hs => by have hs : k = g := hs; subst hs; exact hgA10 hk)
 replace hK0 := Keep.fr hK0 hk29
 refine OI_end rfl ?_
 obtain ⟨hs1, hs2⟩ := Srt.set (a := a) (b := b) (v := v) hs
 rw [g3 v] at h10
 have hl : (setC a b v cs).length = cs.length + 1 := by rw [← g3 v]; simp; omega
 exact X_end _ rfl ⟨rfl, ⟨hs1, by omega, A10, cap10, ⟨by rw [hl]; exact hg_31, h10, hgA10⟩, fun k hk => hD k (by rcases hown10 _ hk with h | h; (have h2 := hown9 _ h; omega); omega)⟩, hK0⟩
end Go.Al.GV
namespace Go.Al.GV
open Go Go.RowKit Go.Proofs
def encC (cs : List Ci) (k : Nat) : Array Value := match cs[k]? with | some c => #[.agg #[nt c.a, nt c.b], .agg (Vt.cells c.v).toArray] | none => #[undef, undef]
theorem encC_at {cs : List Ci} {k : Nat} {c : Ci} (h : cs[k]? = some c) : encC cs k = #[.agg #[nt c.a, nt c.b], .agg (Vt.cells c.v).toArray] := by unfold encC; rw [h]
theorem encC_size (cs : List Ci) (k : Nat) : (encC cs k).size = 2 := by unfold encC; split <;> rfl
theorem cells1_iter (c g cap : Nat) (A : Option Addr) (cs : List Ci) (hn : cs.length ≤ 1000000) : Iter Tryz.prog 217 #[pt c] cs.length (encC cs) (fun W => Blk W c [pt g] 119 ∧ GrAt W g A cap cs) (fun W => SlT W 8 Ci.cells A cap cs) := by
 intro l J Jx w hPre hJ hJx hY hOk h0
 obtain ⟨hc, h⟩ := hPre
 have hg := h.blk
 have hA := h.sl
 have hglt := hg.lt
 have hclt := hc.lt
 show Calls Tryz.prog 217 #[.func (.yield l) #[] #[], pt c] w _
 have hK0 := Keep.refl none_ w
 refine eV ?_
 refine V_seq <| Vr <| Lr 0 (pt g) hc <| Oen [0, 1, 6] <| Vf <| Vsk <| Vr <| Lr 0 (pt g) hc <| On 3 [0, 9] <| Lr 0 (.slice A cs.length cap) hg <| Oen [0, 10, 11, 12] <| V_block ?_
 have hj0 := hJ 0 _ _ h0 (Keep.ofNone hK0)
 refine Vp [(0, .func (.yield l) #[] #[]),(10, .slice A cs.length cap),(11, nt (cs.length : Int)),(12, nt 0)] <| V_loop (fun k wI e => ∃ i : Nat, (k + i = cs.length) ∧ (J i wI) ∧ e = [(0, .func (.yield l) #[] #[]),(10, .slice A cs.length cap),(11, nt (cs.length : Int)),(12, nt (i : Int))]) cs.length ⟨0, rfl, hj0, rfl⟩ ?_
 rintro k2 w1 _ ⟨i, hki, hj, rfl⟩
 have hA := hOk _ _ hj
 have hkh : Keep none_ w1 w1 := Keep.refl _ _
 have hzhkh := Keep.size hkh
 refine Vs [(0, .func (.yield l) #[] #[]),(10, .slice A cs.length cap),(11, nt (cs.length : Int)),(12, nt (i : Int)),(13, .bool (decide ((i : Int) < (cs.length : Int))))] <| V_seq <| Vi ((i : Int) < (cs.length : Int)) (fun hc4 => ?_) (fun hc4 => ?_)
 ·
  refine Vsk <| V_seq <| V_block <| Vr ?_
  obtain ⟨b5, o5, L5, T5, rfl, hat5⟩ := SlT.opn hA
  have hb5lt := hat5.blk.lt
  refine Oi (b := b5) (o := o5) (len := cs.length) (cap := cap) (j := i) (some 14) 192 (.tmp 10) (.tmp 12) 203 8 64 .i64 ?_
  obtain ⟨x6, hx7⟩ := exAt (xs := cs) (i := i)
  refine La (o5 + i * 8) (Ci.cells x6) 8 hat5.blk (At.elem' hat5 (es_at hx7)) (At.len hat5 (es_at hx7)) <| Alc_ 203 (.agg #[nt 0, nt 0, nt 0, .bool false, nt 0, nt 0, nt 0, nt 0]) [nt 0, nt 0, nt 0, .bool false, nt 0, nt 0, nt 0, nt 0] ?_
  intro b8 w8 e8 hb8 k8 z8
  have hsz9 := Keep.size k8
  replace hkh := hkh.tn k8
  have hb8lt := hb8.lt
  refine Sg 0 (Ci.cells x6) hb8 (Ci.len _) (Ci.one _) ?_
  intro w10 hb8_13 hk11 hz12
  replace hb8_13 : Blk w10 b8 (Ci.cells x6) 203 := (by rwa [over_whole (by rw [Ci.len]; rfl)] at hb8_13)
  have hsz14 := Keep.size hk11
  replace hkh := Keep.fr hkh hk11
  refine Oer <| On 2 [0, 4, 10, 11, 12, 16, 17] <| La 0 [nt x6.a, nt x6.b] 2 hb8_13 rfl rfl <| Os 4 [(0, .func (.yield l) #[] #[]),(10, sl_ b5 o5 cs.length cap),(11, nt (cs.length : Int)),(12, nt (i : Int)),(16, .func (.yield l) #[] #[]),(18, .agg #[nt x6.a, nt x6.b]),(19, po_ b8 2)] <| Oa 67 (.tmp 19) 2 [nt x6.v.kind, .bool x6.v.aye, nt x6.v.level, nt x6.v.a, nt x6.v.n, nt x6.v.s] (some 20) 6 hb8_13 rfl rfl <| OI_yield { callee := (Callee.value (Operand.tmp 16)), args := #[(Operand.tmp 18),(Operand.tmp 20)], argTypes := #[61, 67] } l #[.agg #[nt x6.a, nt x6.b], .agg #[nt x6.v.kind, .bool x6.v.aye, nt x6.v.level, nt x6.v.a, nt x6.v.n, nt x6.v.s]] (some 21) (by kernel_rfl) (by kernel_rfl) (by have hy := hY i _ (by omega) (hJ i _ _ hj (Keep.ofNone hkh)); rw [encC_at hx7] at hy; exact hy) ?_
  rintro _ w15 (⟨rfl, hj16⟩ | ⟨rfl, hj16⟩)
  ·
   refine ⟨_, rfl, ?_⟩
   refine Oen [0, 10, 11, 12, 22] <| Vf <| V_skip <| X_block <| X_then <| V_region ?_
   have hw17 : i64.wrap ((i : Int) + 1) = ((i + 1 : Nat) : Int) := wrp
   refine On 1 [0, 10, 11, 23] <| Oq (u := nt (i64.wrap ((i : Int) + 1))) (v := nt ((i + 1 : Nat) : Int)) 23 (by rw [hw17]) <| Os 2 [(0, .func (.yield l) #[] #[]),(10, sl_ b5 o5 cs.length cap),(11, nt (cs.length : Int)),(12, nt ((i + 1 : Nat) : Int))] <| OI_end rfl ?_
   exact V_again (k2 - 1) (by omega) [(0, .func (.yield l) #[] #[]),(10, sl_ b5 o5 cs.length cap),(11, nt (cs.length : Int)),(12, nt ((i + 1 : Nat) : Int))] rfl ⟨i + 1, by omega, hj16, rfl⟩
  ·
   refine ⟨_, rfl, ?_⟩
   refine Ose [(0, .func (.yield l) #[] #[]),(10, sl_ b5 o5 cs.length cap),(11, nt (cs.length : Int)),(12, nt (i : Int)),(22, .bool true)] <| Vo <| V_ret <| X_ret_block <| X_ret_then <| X_ret_then <| X_ret_block ?_
   exact X_return _ rfl ⟨⟨_, rfl⟩, .inr ⟨i + 1, by omega, hj16⟩⟩
 refine V_exit <| X_exit_then <| X_exit_then <| X_exit_here ?_
 have he : i = cs.length := by omega
 rw [he] at hj
 exact X_end _ rfl ⟨⟨_, rfl⟩, .inl (hJ _ _ _ hj (Keep.ofNone hkh))⟩
theorem cellsfn_spec (v : Value) (hv : v.cells = [v].toArray) (w : World) : Calls Tryz.prog 207 #[v] w fun e w' => ∃ c, e = .returned (.func (.func 217) #[] #[pt c]) ∧ Blk w' c [v] 119 ∧ Keep none_ w w' ∧ w.heap.size ≤ c := by
 have hK0 := Keep.refl none_ w
 refine eV ?_
 refine Vr <| OI_box 119 (.tmp 0) v [v] (some 1) (by kernel_rfl) (by kernel_rfl) hv ?_
 intro b1 w1 e1 hb1 k1 z1
 have hsz2 := Keep.size k1
 replace hK0 := hK0.tn k1
 have hb1lt := hb1.lt
 refine On 2 [1] <| Oer <| Ose [(2, .func (.func 217) #[] #[pt b1])] <| V_ret ?_
 exact X_return _ rfl ⟨_, rfl, hb1, hK0, by omega⟩
end Go.Al.GV
namespace Go.Al.GV
open Go Go.RowKit Go.Proofs
variable {A : Option Addr} {W W' : World} {cap k : Nat} {cs : List Ci} {n : Int}
def rowL (n : Int) (cs : List Ci) : List (Int × Vt) := (cs.filter fun c => c.a == n).map fun c => (c.b, c.v)
def enc2 (xs : List (Int × Vt)) (k : Nat) : Array Value := match xs[k]? with | some p => #[nt p.1, .agg (Vt.cells p.2).toArray] | none => #[undef, undef]
theorem enc2_at {xs : List (Int × Vt)} {p : Int × Vt} (h : xs[k]? = some p) : enc2 xs k = #[nt p.1, .agg (Vt.cells p.2).toArray] := by unfold enc2; rw [h]
theorem enc2_size (xs : List (Int × Vt)) (k : Nat) : (enc2 xs k).size = 2 := by unfold enc2; split <;> rfl
theorem fm_step {α β : Type} (p : α → Bool) (f : α → β) {cs : List α} {c : α} (h : cs[k]? = some c) : ((cs.take (k + 1)).filter p).map f = if p c then ((cs.take k).filter p).map f ++ [f c] else ((cs.take k).filter p).map f := by
  obtain ⟨h1, rfl⟩ := List.getElem?_eq_some_iff.1 h
  rw [List.take_succ_eq_append_getElem h1, List.filter_append, List.map_append]
  by_cases hp : p cs[k] = true <;> simp [hp]
theorem fm_at {α β : Type} (p : α → Bool) (f : α → β) {cs : List α} {c : α} (h : cs[k]? = some c) (hp : p c = true) : (((cs.filter p).map f)[(((cs.take k).filter p).map f).length]? = some (f c)) ∧ (((cs.take k).filter p).map f).length < ((cs.filter p).map f).length := by
  have h2 := fm_step p f h
  rw [if_pos hp] at h2
  have h3 : (cs.filter p).map f = (((cs.take k).filter p).map f ++ [f c]) ++ ((cs.drop (k + 1)).filter p).map f := by
    rw [← h2, ← List.map_append, ← List.filter_append, List.take_append_drop]
  rw [h3]
  exact ⟨by simp, by simp⟩
theorem rowL_step {c : Ci} (h : cs[k]? = some c) : rowL n (cs.take (k + 1)) = if c.a = n then rowL n (cs.take k) ++ [(c.b, c.v)] else rowL n (cs.take k) := by
  have := fm_step (fun c : Ci => c.a == n) (fun c => (c.b, c.v)) h
  simpa [rowL] using this
theorem rowL_at {c : Ci} (h : cs[k]? = some c) (hc : c.a = n) : (rowL n cs)[(rowL n (cs.take k)).length]? = some (c.b, c.v) ∧ (rowL n (cs.take k)).length < (rowL n cs).length := fm_at (fun c : Ci => c.a == n) (fun c => (c.b, c.v)) h (by simp [hc])
structure AlOk (bs bn : Nat) (s n : Int) (A : Option Addr) (cap : Nat) (cs : List Ci) (W : World) : Prop where
  side : Blk W bs [nt s] 3
  num : Blk W bn [nt n] 3
  sl : SlT W 8 Ci.cells A cap cs
theorem AlOk.quiet {N bs bn : Nat} {s : Int} (h : AlOk bs bn s n A cap cs W) (k : Keep (lb N W) W W') : AlOk bs bn s n A cap cs W' := ⟨h.1.quiet k, h.2.quiet k, h.3.quiet k⟩
theorem AlOk.keep0 {bs bn : Nat} {s : Int} (h : AlOk bs bn s n A cap cs W) (k : Keep none_ W W') : AlOk bs bn s n A cap cs W' := ⟨h.1.keep k id, h.2.keep k id, h.3.keep0 k⟩
theorem GrAt.quiet {N g : Nat} (h : GrAt W g A cap cs) (k : Keep (lb N W) W W') : GrAt W' g A cap cs := ⟨h.blk.quiet k, h.sl.quiet k, h.off⟩
theorem GrAt.keep0 {g : Nat} (h : GrAt W g A cap cs) (k : Keep none_ W W') : GrAt W' g A cap cs := ⟨h.blk.keep k id, h.sl.keep0 k, h.off⟩
theorem along1_iter0 (bg bs bn g cap : Nat) (A : Option Addr) (cs : List Ci) (n : Int) (hn : cs.length ≤ 1000000) : Iter2 Tryz.prog 206 #[pt bg, pt bs, pt bn] (rowL n cs).length (enc2 (rowL n cs)) (fun W => Blk W bg [pt g] 119 ∧ GrAt W g A cap cs ∧ AlOk bs bn 0 n A cap cs W) (AlOk bs bn 0 n A cap cs) := by
 intro l J Jx w hPre hJ hJx hY hOk h0
 obtain ⟨hbg, h, ho⟩ := hPre
 have hbs := ho.side
 have hbn := ho.num
 have hg := h.blk
 have hA := h.sl
 have hglt := hg.lt
 have hgA := h.off
 have hbslt := hbs.lt
 have hbnlt := hbn.lt
 have hbglt := hbg.lt
 show Calls Tryz.prog 206 #[.func (.yield l) #[] #[], pt bg, pt bs, pt bn] w _
 have hK0 := Keep.refl none_ w
 refine enterM Tryz.func206 rfl [.func (.yield l) #[] #[], pt bg, pt bs, pt bn] 26 rfl rfl rfl ?_
 refine Vp [(0, .func (.yield l) #[] #[]),(1, pt bg),(2, pt bs),(3, pt bn)] <| Vr <| Bx 246 [.func (.yield l) #[] #[]] ?_
 intro b1 w1 e1 hb1 k1 z1
 have hsz2 := Keep.size k1
 replace hbg := hbg.k0 k1
 replace hK0 := hK0.tn k1
 have hb1lt := hb1.lt
 refine Oer <| Lr 0 (pt g) hbg <| Ok (kl 207 #[(.tmp 7)] #[119]) 207 #[pt g] (some 8) (cellsfn_spec _ rfl _) ?_
 rintro _ w3 ⟨c5, rfl, hc5, hk4, hgec5⟩
 refine ⟨_, rfl, ?_⟩
 have hsz6 := Keep.size hk4
 replace hbs := hbs.k0 (k1.tr hk4)
 replace hbn := hbn.k0 (k1.tr hk4)
 replace hg := hg.k0 (k1.tr hk4)
 replace hb1 := hb1.k0 hk4
 replace hA := hA.keep0 (k1.tr hk4)
 replace hK0 := hK0.tn hk4
 have hc5lt := hc5.lt
 refine Oe <| V_block ?_
 have hb4ge : w.heap.size ≤ b1 := by omega
 refine Vp [(2, pt bs),(3, pt bn),(4, pt b1),(8, .func (.func 217) #[] #[pt c5])] ?_
 have hN0 : w.heap.size ≤ w3.heap.size := Keep.size hK0
 refine V_range2 (gf := 217) (caps := #[pt c5]) (m := cs.length) (by kernel_rfl) (by kernel_rfl) (by kernel_rfl) ((cells1_iter c5 g cap A cs hn).to2) (⟨hc5, ⟨hg, hA, hgA⟩⟩) (fun W W' h k => ⟨h.1.quiet k, h.2.quiet k⟩) (encC_size cs) (fun M1 k W => (Blk W bs [nt 0] 3) ∧ (Blk W bn [nt n] 3) ∧ (Blk W b1 [.func (.yield l) #[] #[]] 246) ∧ (J M1 (rowL n (cs.take k)).length W)) (fun M1 c k W => (c = .ret ∧ ∃ q : Nat, (Jx M1 q W) ∧ (q ≤ (rowL n cs).length))) (fun M1 k W W' h hk => by obtain ⟨jbs, jbn, jb1, jj⟩ := h; exact ⟨jbs.quiet hk, jbn.quiet hk, jb1.quiet hk, (((hJ _ _).mono (by omega)) _ _ jj hk)⟩) (fun M1 c k W W' h hk => by obtain ⟨hc, q, xx, hq⟩ := h; exact ⟨hc, q, (((hJx _ _).mono (by omega)) _ _ xx hk), hq⟩) (fun M1 hM1 => ⟨hbs, hbn, hb1, hJ _ _ _ _ (h0 _ (by omega)) (Keep.ofNone hK0)⟩) (fun M1 k W h => by obtain ⟨jbs, jbn, jb1, jj⟩ := h; exact (hOk _ _ _ jj).sl) ?_ ?_ ?_
 ·
  intro lp D M1 k W hD hl hM hMW hkm ⟨jbs, jbn, jb1, jj⟩ ⟨rr, hrr⟩ hDD
  have hbslt := jbs.lt
  have hbnlt := jbn.lt
  have hb1lt := jb1.lt
  obtain ⟨x, hx⟩ : ∃ x, cs[k]? = some x := ⟨_, List.getElem?_eq_getElem (by omega)⟩
  rw [encC_at hx]
  refine Vp [(2, pt bs),(3, pt bn),(4, pt b1),(9, .agg #[nt x.a, nt x.b]),(10, .agg (Vt.cells x.v).toArray)] ?_
  have hfen : Keep (fen w3.heap.size M1) W W := Keep.refl _ _
  have hzhfen := Keep.size hfen
  have hkj : Keep none_ W W := Keep.refl _ _
  have hzhkj := Keep.size hkj
  refine Vr <| OI_alloc 61 (.agg #[nt 0, nt 0]) [nt 0, nt 0] (some 5) (by kernel_rfl) (by kernel_rfl) (by kernel_rfl) ?_
  intro b7 w7 e7 hb7 k7 z7
  have hsz8 := Keep.size k7
  replace jbs := jbs.k0 k7
  replace jbn := jbn.k0 k7
  replace jb1 := jb1.k0 k7
  replace hfen := hfen.tn k7
  replace hkj := hkj.tn k7
  have hb7lt := hb7.lt
  refine OI_set (m := 2) (kd := true) 61 (.tmp 5) (.tmp 9) 0 (.agg #[nt x.a, nt x.b]) [nt x.a, nt x.b] none (by kernel_rfl) (by kernel_rfl) (by kernel_rfl) hb7 (by kernel_rfl) (by kernel_rfl) (by kernel_rfl) (Nat.le_of_ble_eq_true (by kernel_rfl)) (by simp [Value.oneCell']) ?_
  intro w9 hb7_12 hk10 hz11
  replace hb7_12 : Blk w9 b7 [nt x.a, nt x.b] 61 := hb7_12
  have hsz13 := Keep.size hk10
  replace jbs := jbs.k1 hk10
  replace jbn := jbn.k1 hk10
  replace jb1 := jb1.k1 hk10
  replace hfen := Keep.fresh hfen hk10 (by intro i hi hs; have hs2 : i = b7 := hs; show _ ∨ _; omega)
  replace hkj := Keep.fr hkj hk10
  refine Oe <| V_region <| OI_alloc 67 (.agg #[nt 0, .bool false, nt 0, nt 0, nt 0, nt 0]) [nt 0, .bool false, nt 0, nt 0, nt 0, nt 0] (some 6) (by kernel_rfl) (by kernel_rfl) (by kernel_rfl) ?_
  intro b14 w14 e14 hb14 k14 z14
  have hsz15 := Keep.size k14
  replace jbs := jbs.k0 k14
  replace jbn := jbn.k0 k14
  replace jb1 := jb1.k0 k14
  replace hb7_12 := hb7_12.k0 k14
  replace hfen := hfen.tn k14
  replace hkj := hkj.tn k14
  have hb14lt := hb14.lt
  refine Sg 0 (Vt.cells x.v) hb14 (Vt.len _) (Vt.one _) ?_
  intro w16 hb14_19 hk17 hz18
  replace hb14_19 : Blk w16 b14 (Vt.cells x.v) 67 := (by rwa [over_whole (by rw [Vt.len]; rfl)] at hb14_19)
  have hsz20 := Keep.size hk17
  replace jbs := jbs.k1 hk17
  replace jbn := jbn.k1 hk17
  replace jb1 := jb1.k1 hk17
  replace hb7_12 := hb7_12.k1 hk17
  replace hfen := Keep.fresh hfen hk17 (by intro i hi hs; have hs2 : i = b14 := hs; show _ ∨ _; omega)
  replace hkj := Keep.fr hkj hk17
  refine OI_end rfl <| X_begin2 hfen ?_
  intro W2 hk2 ⟨r2, hr2⟩ hD2
  have hsz21 := Keep.size hk2
  replace jbs := Blk.quiet jbs hk2
  replace jbn := Blk.quiet jbn hk2
  replace jb1 := Blk.quiet jb1 hk2
  replace hb7_12 := Blk.quiet hb7_12 hk2
  replace hb14_19 := Blk.quiet hb14_19 hk2
  replace jj := hJ _ _ _ _ jj (Keep.ofNone hkj); replace jj := (hJ _ _).mono (by omega : w.heap.size ≤ w3.heap.size) _ _ jj hk2; replace hkj := Keep.refl none_ W2
  have hzhk2 := Keep.size hk2
  have hfenb : Keep (fen w3.heap.size M1) W2 W2 := Keep.refl _ _
  have hzhfenb := Keep.size hfenb
  have hzhkj := Keep.size hkj
  refine V_block <| V_seq <| V_draws (acts [12]) none_ [[0, 1, 2, 3, 4, 5, 6, 7, 8, 9, 10, 11, 12, 13, 14]] (by kernel_rfl) (by repeat first | exact (by first | exact sure_postM | exact sure_rQ2 | exact sure_no | exact sure_body (by rintro _ _ ⟨h, _⟩; exact ⟨_, h⟩)) | refine sure_then ?_ | refine sure_block ?_ | refine sure_join ?_) (by kernel_rfl) ?_
  intro w23 hk22 he24 L hL25
  have hsz26 := Keep.size hk22
  replace jbs := jbs.k0 hk22
  replace jbn := jbn.k0 hk22
  replace jb1 := jb1.k0 hk22
  replace hb7_12 := hb7_12.k0 hk22
  replace hb14_19 := hb14_19.k0 hk22
  replace hkj := hkj.tn hk22
  replace hfenb := hfenb.tn hk22
  have qjbs := jbs
  have qjbn := jbn
  have qjb1 := jb1
  have qhb7_12 := hb7_12
  have qhb14_19 := hb14_19
  have K27 : Keep none_ w23 w23 := Keep.refl _ _
  obtain rfl := List.mem_singleton.1 hL25
  refine Mr 0 (nt 0) qjbs <| Gn [2, 3, 4, 5, 6, 7, 8, 9, 10, 11, 12, 13, 14] [2, 3, 4, 5, 6, 12] <| Mr 0 (nt x.a) qhb7_12 <| Mr 0 (nt n) qjbn <| Gn [6, 7, 8, 9, 10, 11, 12, 13, 14] [2, 4, 5, 6, 16] ?_
  by_cases hg28 : x.a = n
  ·
   refine Et 16 hg28 <| Mr 0 (.func (.yield l) #[] #[]) qjb1 <| Mr 0 (nt 0) qjbs <| Gs [10, 11, 12, 13, 14] [(6, pt b14),(16, .bool true),(17, .func (.yield l) #[] #[]),(20, po_ b7 1)] <| Gc0 3 (.tmp 20) 1 (nt x.b) (some 21) qhb7_12 rfl <| Ga 67 (.tmp 6) 0 (Vt.cells x.v) (some 22) 6 qhb14_19 id (take_all (Vt.len _)) (Vt.len _) ?_
   obtain ⟨hat, hlt⟩ := rowL_at hx hg28
   refine GI_yield0 { callee := (Callee.value (Operand.tmp 17)), args := #[(Operand.tmp 21),(Operand.tmp 22)], argTypes := #[3, 67] } l #[nt x.b, .agg (Vt.cells x.v).toArray] (some 23) (by kernel_rfl) (by kernel_rfl) (by kernel_rfl) (by kernel_rfl) (by have hy := hY M1 _ _ (by omega) (by omega) hlt (hJ _ _ _ _ jj (Keep.ofNone hkj)); rw [enc2_at hat] at hy; exact hy) ?_
   rintro _ w29 ⟨hk31, (⟨rfl, hj30⟩ | ⟨rfl, hj30⟩)⟩
   ·
    refine ⟨_, rfl, ?_⟩
    have hsz32 := Keep.size hk31
    replace jb1 := jb1.keep hk31 (by show ¬ (_ ∨ _); omega)
    replace hfenb := Keep.fresh hfenb hk31 (by intro i hi hs; rcases hs with hs | hs; exact .inl (by omega); exact .inr hs)
    have hok33 := hOk _ _ _ hj30
    have hok33s := hok33.side
    have hok33n := hok33.num
    refine Gs [] [(25, .bool false)] <| GI_end <| X_then <| Vf <| V_skip <| X_block ?_
    exact fun a _ => ⟨hfenb, hok33s, hok33n, jb1, by rw [rowL_step hx, if_pos hg28]; simpa using hj30⟩
   ·
    refine ⟨_, rfl, ?_⟩
    have hsz34 := Keep.size hk31
    replace hfenb := Keep.fresh hfenb hk31 (by intro i hi hs; rcases hs with hs | hs; exact .inl (by omega); exact .inr hs)
    refine Gs [] [(25, .bool true)] <| GI_end <| X_then <| Vo <| V_ret <| X_ret_block ?_
    exact fun a _ => ⟨hfenb, ⟨rfl, _, hj30, by omega⟩⟩
  refine Ef 16 hg28 <| Gs [] [(25, .bool false)] <| GI_end <| X_then <| Vf <| V_skip <| X_block ?_
  exact fun a _ => ⟨hfenb, jbs, jbn, jb1, hJ _ _ _ _ (by rw [rowL_step hx, if_neg hg28]; exact jj) (Keep.ofNone hkj)⟩
 ·
  intro D M1 W hD hM ⟨jbs, jbn, jb1, jj⟩ hDD
  have hbslt := jbs.lt
  have hbnlt := jbn.lt
  have hb1lt := jb1.lt
  refine X_block ?_
  rw [List.take_length] at jj
  exact leave1 (.tuple #[]) (.inr rfl) hDD (fun w' hk => ⟨res_tmps rfl, ⟨_, rfl⟩, M1, by omega, .inl (((hJ _ _).mono (by omega)) _ _ jj hk)⟩)
 ·
  intro D M1 k c W hD hM hkm h hDD
  obtain ⟨hc, q, xx, hq⟩ := h
  subst hc
  refine V_ret <| X_ret_block ?_
  exact leave1 (.tuple #[]) (.inl rfl) hDD (fun w' hk => ⟨res_tmps rfl, ⟨_, rfl⟩, M1, by omega, .inr ⟨q, hq, ((hJx _ _).mono (by omega)) _ _ xx hk⟩⟩)
theorem alongfn_spec (v : Value) (hv : v.cells = [v].toArray) (s n : Int) (w : World) : Calls Tryz.prog 191 #[v, nt s, nt n] w fun e w' => ∃ bg bs bn, e = .returned (.func (.func 206) #[] #[pt bg, pt bs, pt bn]) ∧ Blk w' bg [v] 119 ∧ Blk w' bs [nt s] 3 ∧ Blk w' bn [nt n] 3 ∧ Keep none_ w w' ∧ w.heap.size ≤ bg ∧ w.heap.size ≤ bs ∧ w.heap.size ≤ bn := by
 have hK0 := Keep.refl none_ w
 refine eV ?_
 refine Vr <| OI_box 119 (.tmp 0) v [v] (some 3) (by kernel_rfl) (by kernel_rfl) hv ?_
 intro b1 w1 e1 hb1 k1 z1
 have hsz2 := Keep.size k1
 replace hK0 := hK0.tn k1
 have hb1lt := hb1.lt
 refine Bx 3 [nt s] ?_
 intro b3 w3 e3 hb3 k3 z3
 have hsz4 := Keep.size k3
 replace hK0 := hK0.tn k3
 have hb3lt := hb3.lt
 refine Bx 3 [nt n] ?_
 intro b5 w5 e5 hb5 k5 z5
 have hsz6 := Keep.size k5
 replace hb1 := hb1.k0 (k3.tr k5)
 replace hb3 := hb3.k0 k5
 replace hK0 := hK0.tn k5
 have hb5lt := hb5.lt
 refine On 4 [3, 4, 5] <| Oer <| Ose [(6, .func (.func 206) #[] #[pt b1, pt b3, pt b5])] <| V_ret ?_
 exact X_return _ rfl ⟨_, _, _, rfl, hb1, hb3, hb5, hK0, by omega, by omega, by omega⟩
theorem row_spec (v : Value) (hv : v.cells = [v].toArray) (n : Int) (w : World) : Calls Tryz.prog 162 #[v, nt n] w fun e w' => ∃ bg bs bn, e = .returned (.func (.func 206) #[] #[pt bg, pt bs, pt bn]) ∧ Blk w' bg [v] 119 ∧ Blk w' bs [nt 0] 3 ∧ Blk w' bn [nt n] 3 ∧ Keep none_ w w' ∧ w.heap.size ≤ bg ∧ w.heap.size ≤ bs ∧ w.heap.size ≤ bn := by
 have hK0 := Keep.refl none_ w
 refine eV ?_
 refine Vr <| On 1 [0, 1] <| Oer <| On 2 [5, 6] <| Kg (alongfn_spec v hv 0 n _) ?_
 rintro _ w1 ⟨bg, bs, bn, rfl, h1, h2, h3, hk2, h4, h5, h6⟩
 refine ⟨_, rfl, ?_⟩
 have hsz3 := Keep.size hk2
 replace hK0 := hK0.tn hk2
 refine Ose [(4, .func (.func 206) #[] #[pt bg, pt bs, pt bn])] <| V_ret ?_
 exact X_return _ rfl ⟨_, _, _, rfl, h1, h2, h3, hK0, h4, h5, h6⟩
end Go.Al.GV
namespace Go.Al.GV
open Go Go.RowKit Go.Proofs
variable {F : Nat → Prop} {cs : List Ci} {g : Nat} {w : World}
theorem Srt.nil : Srt [] := List.Pairwise.nil
def Grd (F : Nat → Prop) (w : World) (g : Nat) (cs : List Ci) : Prop := Srt cs ∧ cs.length ≤ 100000 ∧ F g ∧ (∀ q, F q → q < w.heap.size) ∧ ∃ A cap, GrAt w g A cap cs ∧ ∀ q, inA A q → F q
theorem Grd.lt (h : Grd F w g cs) : ∀ q, F q → q < w.heap.size := h.2.2.2.1
theorem Grd.at_ (h : Grd F w g cs) : F g := h.2.2.1
theorem Grd.len (h : Grd F w g cs) : cs.length ≤ 100000 := h.2.1
theorem Grd.keep {S : Nat → Prop} {w' : World} (h : Grd F w g cs) (k : Keep S w w') (hS : ∀ q, F q → ¬ S q) : Grd F w' g cs := by
  obtain ⟨h1, h2, h3, h4, A, cap, h5, h6⟩ := h
  exact ⟨h1, h2, h3, fun q hq => Nat.lt_of_lt_of_le (h4 q hq) k.size, A, cap, ⟨h5.blk.keep k (hS _ h3), h5.sl.keep k (fun q hq => hS q (h6 q hq)), h5.off⟩, h6⟩
theorem Grd.quiet {N : Nat} {w' : World} (h : Grd F w g cs) (k : Keep (lb N w) w w') : Grd F w' g cs := by
  obtain ⟨h1, h2, h3, h4, A, cap, h5, h6⟩ := h
  exact ⟨h1, h2, h3, fun q hq => Nat.lt_of_lt_of_le (h4 q hq) k.size, A, cap, h5.quiet k, h6⟩
theorem Grd.mono {F' : Nat → Prop} (h : Grd F w g cs) (hF : ∀ q, F q → F' q) (hlt : ∀ q, F' q → q < w.heap.size) : Grd F' w g cs := by
  obtain ⟨h1, h2, h3, h4, A, cap, h5, h6⟩ := h
  exact ⟨h1, h2, hF _ h3, hlt, A, cap, h5, fun q hq => hF q (h6 q hq)⟩
theorem Grd.of {D : Nat → Prop} (h : Gr D w g cs) (hg : F g) (hD : ∀ q, q < w.heap.size → D q → F q) (hlt : ∀ q, F q → q < w.heap.size) : Grd F w g cs := by
  obtain ⟨h1, h2, A, cap, h5, h6⟩ := h
  exact ⟨h1, h2, hg, hlt, A, cap, h5, fun q hq => hD q (h5.sl.lt q hq) (h6 q hq)⟩
theorem Grd.gr (h : Grd F w g cs) : Gr F w g cs := by
  obtain ⟨h1, h2, h3, h4, A, cap, h5, h6⟩ := h
  exact ⟨h1, h2, A, cap, h5, h6⟩
def more (F : Nat → Prop) (w w' : World) : Nat → Prop := fun q => F q ∨ (w.heap.size ≤ q ∧ q < w'.heap.size)
theorem Gr.mono {D D' : Nat → Prop} (h : Gr D w g cs) (hD : ∀ k, D k → D' k) : Gr D' w g cs := by
  obtain ⟨h1, h2, A, cap, h5, h6⟩ := h
  exact ⟨h1, h2, A, cap, h5, fun q hq => hD q (h6 q hq)⟩
theorem new_grd (w : World) : Calls Tryz.prog 57 #[] w fun e w' => ∃ g F, e = .returned (pt g) ∧ Grd F w' g [] ∧ Keep none_ w w' ∧ (∀ q, F q → w.heap.size ≤ q) := (new_spec (fun q => w.heap.size ≤ q) w).mono (by
  rintro e w' ⟨g, rfl, h1, h2, h3⟩
  have hg : g < w'.heap.size := by obtain ⟨_, _, A, cap, h, _⟩ := h1; exact h.blk.lt
  exact ⟨g, fun q => w.heap.size ≤ q ∧ q < w'.heap.size, rfl, Grd.of h1 ⟨h3, hg⟩ (fun q h1 h2 => ⟨h2, h1⟩) (fun q h => h.2), h2, fun q h => h.1⟩)
theorem set_grd (F : Nat → Prop) (g : Nat) (cs : List Ci) (a b : Int) (v : Vt) (w : World) (h : Grd F w g cs) (hmax : cs.length < 100000) : Calls Tryz.prog 72 #[pt g, nt a, nt b, .agg (Vt.cells v).toArray] w fun e w' => e = .returned (.tuple #[]) ∧ (∃ F', Grd F' w' g (setC a b v cs) ∧ (∀ q, F' q → F q ∨ w.heap.size ≤ q)) ∧ Keep F w w' :=
  (set_spec (fun q => F q ∨ w.heap.size ≤ q) g cs a b v w (h.gr.mono (fun _ h => .inl h)) (fun _ h => .inr h) hmax).mono (by
    rintro e w' ⟨rfl, h1, h2⟩
    exact ⟨rfl, ⟨more F w w', Grd.of h1 (.inl h.at_) (fun q hq hD => hD.imp id (fun h => ⟨h, hq⟩)) (fun q hq => by rcases hq with hq | hq; exact Nat.lt_of_lt_of_le (h.lt q hq) h2.size; exact hq.2), fun q hq => hq.imp id (·.1)⟩, h2.mono (fun q _ hq => by rw [show q = g from hq]; exact h.at_)⟩)
end Go.Al.GV
namespace Go.Al.GR
open Go Go.RowKit Go.Proofs
structure Ci where
  a : Int
  b : Int
  v : Option Addr
def Ci.cells (c : Ci) : List Value := [nt c.a, nt c.b, .pointer c.v]
theorem Ci.len (c : Ci) : c.cells.length = 3 := rfl
theorem Ci.one (c : Ci) : ∀ u ∈ c.cells, u.oneCell' = true := one_all' rfl
def ordC (a b : Int) (c : Ci) : Int := orI [cmpI c.a a, cmpI c.b b]
theorem place1_spec (c : Ci) (a b : Int) (w : World) : Calls Tryz.prog 188 #[.agg c.cells.toArray, .agg #[nt a, nt b]] w fun e w' => e = .returned (nt (ordC a b c)) ∧ Keep none_ w w' := by
 have hK0 := Keep.refl none_ w
 refine eV ?_
 refine Vr <| OI_box 241 (.tmp 0) (.agg (Ci.cells c).toArray) (Ci.cells c) (some 2) (by kernel_rfl) (by kernel_rfl) rfl ?_
 intro b1 w1 e1 hb1 k1 z1
 have hsz2 := Keep.size k1
 replace hK0 := hK0.tn k1
 have hb1lt := hb1.lt
 refine Bx 61 [nt a, nt b] ?_
 intro b3 w3 e3 hb3 k3 z3
 have hsz4 := Keep.size k3
 replace hK0 := hK0.tn k3
 have hb3lt := hb3.lt
 refine Oen [2, 3] <| V_seq <| Vd1 (acts [5, 11, 12, 13]) none_ [0, 1, 2, 3, 4, 5, 6, 7, 8, 9, 10, 11, 12, 13, 14] fun w6 hk5 he7 K10 _ => ?_
 replace hb1 := hb1.k0 (k3.tr hk5)
 replace hb3 := hb3.k0 hk5
 replace hK0 := hK0.tn hk5
 have qhb1 := hb1
 have qhb3 := hb3
 refine Gn [2, 3, 4, 5, 6, 7, 8, 9, 10, 11, 12, 13, 14] [2, 3, 6] <| Mr 0 (nt c.a) qhb1 <| Gn [4, 5, 6, 7, 8, 9, 10, 11, 12, 13, 14] [2, 3, 7, 8] <| Mr 0 (nt a) qhb3 <| Hq K10 (compare_spec c.a a _) <| Gn [8, 9, 10, 11, 12, 13, 14] [3, 10, 12] <| Mr 1 (nt c.b) qhb1 <| Gn [10, 11, 12, 13, 14] [10, 13, 14] <| Mr 1 (nt b) qhb3 <| Jq (compare_spec c.b b _) <| GI_slit (E := 3) (zv := nt 0) (sz := 1) (by_ := 8) 72 2 #[(0, (Operand.tmp 10)),(1, (Operand.tmp 16))] [nt (cmpI c.a a), nt (cmpI c.b b)] [nt (cmpI c.a a), nt (cmpI c.b b)] (some 17) (by kernel_rfl) (by kernel_rfl) K10 (by kernel_rfl) (by kernel_rfl) (by omega) rfl (by omega) (by intro v hv; simp only [List.mem_cons, List.not_mem_nil, or_false] at hv; rcases hv with rfl | rfl <;> rfl) (by kernel_rfl) rfl ?_
 intro b13 w13 e13 hb13 k13 z13 K14
 have hsz15 := Keep.size k13
 replace hK0 := hK0.tn k13
 have hb13lt := hb13.lt
 refine Gk0 (kl 146 #[(.tmp 17)] #[72]) 146 #[sl_ b13 0 2 2] (some 18) (or_spec _ 2 [cmpI c.a a, cmpI c.b b] _ (slt_blk hb13 (fun _ => rfl) rfl) (by simp)) ?_
 rintro _ w13 ⟨rfl, rfl⟩
 refine ⟨_, rfl, ?_⟩
 exact Gn [] [4] <| GI_end <| X_then <| Rr (nt (orI [cmpI c.a a, cmpI c.b b])) ⟨rfl, hK0⟩
theorem bsearch_spec (A : Option Addr) (cap F : Nat) (xs : List Ci) (kl : List Value) (ord : Ci → Int) (w : World) (hA : SlT w 3 Ci.cells A cap xs) (hkl : kl.length = 2) (hn : xs.length ≤ 1000000) (hb : bodied Tryz.prog F = true)
    (hF : ∀ x w, Calls Tryz.prog F #[.agg (Ci.cells x).toArray, .agg kl.toArray] w fun e w' => e = .returned (nt (ord x)) ∧ Keep none_ w w') (hm : ∀ (i j : Nat) x y, i ≤ j → xs[i]? = some x → xs[j]? = some y → ord y < 0 → ord x < 0) :
    Calls Tryz.prog 187 #[.slice A xs.length cap, .agg kl.toArray, .func (.func F) #[] #[]] w fun e w' => ∃ (i : Nat) (b : Bool), e = .returned (.tuple #[nt (i : Int), .bool b]) ∧ Keep none_ w w' ∧ i ≤ xs.length ∧ (∀ (j : Nat) y, j < i → xs[j]? = some y → ord y < 0) ∧ (∀ (j : Nat) y, i ≤ j → xs[j]? = some y → ¬ ord y < 0) ∧ b = (match xs[i]? with | some y => decide (ord y = 0) | none => false) := by
 have hK0 := Keep.refl none_ w
 refine eV ?_
 refine Vr <| OI_box 61 (.tmp 1) (.agg kl.toArray) kl (some 4) (by kernel_rfl) (by kernel_rfl) rfl ?_
 intro b1 w1 e1 hb1 k1 z1
 have hsz2 := Keep.size k1
 replace hK0 := hK0.tn k1
 have hb1lt := hb1.lt
 refine On 3 [0, 2, 4] <| Oer <| On 3 [0, 2, 4, 8] <| Oer <| Oen [0, 2, 4, 8, 9, 10] <| V_seq <| V_block <| Vp [(0, .slice A xs.length cap),(2, .func (.func F) #[] #[]),(4, pt b1),(8, nt (xs.length : Int)),(9, nt 0),(10, nt (xs.length : Int))] <| V_loop (fun k wI e => ∃ lo : Nat, ∃ hi : Nat, (k + lo = hi) ∧ (lo ≤ hi) ∧ (hi ≤ xs.length) ∧ (∀ (j : Nat) y, j < lo → xs[j]? = some y → ord y < 0) ∧ (∀ (j : Nat) y, hi ≤ j → xs[j]? = some y → ¬ ord y < 0) ∧ Keep none_ w1 wI ∧ e = [(0, .slice A xs.length cap),(2, .func (.func F) #[] #[]),(4, pt b1),(8, nt (xs.length : Int)),(9, nt (lo : Int)),(10, nt (hi : Int))]) xs.length ⟨0, xs.length, rfl, Nat.zero_le _, Nat.le_refl _, (fun j y hj => absurd hj (Nat.not_lt_zero _)),(fun j y hj hy => absurd (List.getElem?_eq_some_iff.1 hy).1 (by omega)), Keep.refl _ _, rfl⟩ ?_
 rintro k4 w3 _ ⟨lo, hi, hk2, hlo, hhi, hbef, haft, hk5, rfl⟩
 have hsz6 := Keep.size hk5
 replace hb1 := hb1.k0 hk5
 replace hA := hA.keep0 (k1.tr hk5)
 replace hK0 := hK0.tn hk5
 have hzhk5 := Keep.size hk5
 refine V_seq <| Vn [0, 2, 4, 8, 9, 10, 17] <| Vi ((lo : Int) < (hi : Int)) (fun hc7 => ?_) (fun hc7 => ?_)
 ·
  refine Vsk <| V_block <| Vr ?_
  have hw8 : i64.wrap ((lo : Int) + (hi : Int)) = ((lo + hi : Nat) : Int) := wrp
  refine On 3 [0, 2, 4, 8, 9, 10, 20] <| Oq (u := nt (i64.wrap ((lo : Int) + (hi : Int)))) (v := nt ((lo + hi : Nat) : Int)) 20 (by rw [hw8]) ?_
  have hw9 : IntKind.u64.wrap ((lo + hi : Nat) : Int) = ((lo + hi : Nat) : Int) := wrap_u64 (by omega)
  refine On 4 [0, 2, 4, 8, 9, 10, 21] <| Oq (u := .int .u64 (IntKind.u64.wrap ((lo + hi : Nat) : Int))) (v := .int .u64 ((lo + hi : Nat) : Int)) 21 (by rw [hw9]) ?_
  have hw10 : Int.fdiv ((lo + hi : Nat) : Int) (2 ^ 1) = (((lo + hi) / 2 : Nat) : Int) := shr1 _
  refine On 5 [0, 2, 4, 8, 9, 10, 22] <| Oq (u := .int .u64 (Int.fdiv ((lo + hi : Nat) : Int) (2 ^ 1))) (v := .int .u64 (((lo + hi) / 2 : Nat) : Int)) 22 (by rw [hw10]) ?_
  have hw11 : i64.wrap (((lo + hi) / 2 : Nat) : Int) = (((lo + hi) / 2 : Nat) : Int) := wrap64_id (by omega) (by omega)
  refine On 6 [0, 2, 4, 8, 9, 10, 23] <| Oq (u := nt (i64.wrap (((lo + hi) / 2 : Nat) : Int))) (v := nt (((lo + hi) / 2 : Nat) : Int)) 23 (by rw [hw11]) <| Oen [0, 2, 4, 8, 9, 10, 11] <| V_seq <| Vd1 (acts [6]) none_ [0, 1, 2, 3, 4, 5, 6, 7] fun w13 hk12 he14 K17 _ => ?_
  replace hb1 := hb1.k0 hk12
  replace hA := hA.keep0 hk12
  replace hk5 := hk5.tn hk12
  have qhb1 := hb1
  refine Gn [3, 4, 5, 6, 7] [0, 2, 4, 8, 9, 10, 11, 24, 25, 26] ?_
  obtain ⟨b18, o18, L18, T18, rfl, hat18⟩ := SlT.opn hA
  have hb18lt := hat18.blk.lt
  refine Gi (b := b18) (o := o18) (len := xs.length) (cap := cap) (j := (lo + hi) / 2) 241 3 24 .i64 ?_
  obtain ⟨x19, hx20⟩ := exAt (xs := xs) (i := (lo + hi) / 2)
  refine Ma (o18 + ((lo + hi) / 2) * 3) (Ci.cells x19) 3 hat18.blk id (At.elem' hat18 (es_at hx20)) (At.len hat18 (es_at hx20)) <| Ma 0 kl 2 qhb1 id (take_all hkl) hkl <| GI_call0 { callee := (Callee.value (Operand.tmp 24)), args := #[(Operand.tmp 28),(Operand.tmp 29)], argTypes := #[241, 61] } F #[.agg (Ci.cells x19).toArray, .agg kl.toArray] (some 30) (by kernel_rfl) (by kernel_rfl) (by kernel_rfl) (by kernel_rfl) hb (hF x19 _) ?_
  rintro _ w21 ⟨rfl, hk22⟩
  refine ⟨_, rfl, ?_⟩
  have hsz23 := Keep.size hk22
  replace hk5 := hk5.tn hk22
  refine Gn [] [0, 2, 4, 8, 9, 10, 11, 31] <| GI_end <| X_then <| Vi (ord x19 < 0) (fun hc24 => ?_) (fun hc24 => ?_)
  ·
   refine V_region ?_
   have hw25 : i64.wrap ((((lo + hi) / 2 : Nat) : Int) + 1) = (((lo + hi) / 2 + 1 : Nat) : Int) := wrp
   refine On 2 [0, 2, 4, 8, 10, 33] <| Oq (u := nt (i64.wrap ((((lo + hi) / 2 : Nat) : Int) + 1))) (v := nt (((lo + hi) / 2 + 1 : Nat) : Int)) 33 (by rw [hw25]) <| Os 3 [(0, sl_ b18 o18 xs.length cap),(2, .func (.func F) #[] #[]),(4, pt b1),(8, nt (xs.length : Int)),(9, nt (((lo + hi) / 2 + 1 : Nat) : Int)),(10, nt (hi : Int))] <| OI_end rfl <| X_block ?_
   exact V_again (hi - ((lo + hi) / 2 + 1)) (by omega) [(0, sl_ b18 o18 xs.length cap),(2, .func (.func F) #[] #[]),(4, pt b1),(8, nt (xs.length : Int)),(9, nt (((lo + hi) / 2 + 1 : Nat) : Int)),(10, nt (hi : Int))] rfl ⟨(lo + hi) / 2 + 1, hi, by omega, by omega, by omega, fun j y hj hy => hm j ((lo + hi) / 2) y x19 (by omega) hy hx20 hc24, haft, hk5, rfl⟩
  refine V_region <| Os 2 [(0, sl_ b18 o18 xs.length cap),(2, .func (.func F) #[] #[]),(4, pt b1),(8, nt (xs.length : Int)),(9, nt (lo : Int)),(10, nt (((lo + hi) / 2 : Nat) : Int))] <| OI_end rfl <| X_block ?_
  exact V_again ((lo + hi) / 2 - lo) (by omega) [(0, sl_ b18 o18 xs.length cap),(2, .func (.func F) #[] #[]),(4, pt b1),(8, nt (xs.length : Int)),(9, nt (lo : Int)),(10, nt (((lo + hi) / 2 : Nat) : Int))] rfl ⟨lo, (lo + hi) / 2, by omega, by omega, by omega, hbef, fun j y hj hy hlt => hc24 (hm ((lo + hi) / 2) j x19 y (by omega) hx20 hy hlt), hk5, rfl⟩
 refine V_exit <| X_exit_then <| X_exit_then <| X_exit_here <| X_then <| V_seq <| Vd1 (acts [11]) none_ [1, 2, 3, 4, 5, 6, 7, 8, 9, 10, 11, 0, 12, 13, 14, 15] fun w27 hk26 he28 K31 _ => ?_
 replace hb1 := hb1.k0 hk26
 replace hA := hA.keep0 hk26
 replace hK0 := hK0.tn hk26
 have qhb1 := hb1
 refine Gn [5, 6, 7, 8, 9, 10, 11, 0, 12, 13, 14, 15] [0, 2, 4, 9, 39] ?_
 by_cases hg32 : (lo : Int) < (xs.length : Int)
 ·
  refine Et 39 hg32 <| Gn [8, 9, 10, 11, 0, 12, 13, 14, 15] [4, 9, 39, 40, 41, 42] ?_
  obtain ⟨b33, o33, L33, T33, rfl, hat33⟩ := SlT.opn hA
  have hb33lt := hat33.blk.lt
  refine Gi (b := b33) (o := o33) (len := xs.length) (cap := cap) (j := lo) 241 3 24 .i64 ?_
  obtain ⟨x34, hx35⟩ := exAt (xs := xs) (i := lo)
  refine Ma (o33 + lo * 3) (Ci.cells x34) 3 hat33.blk id (At.elem' hat33 (es_at hx35)) (At.len hat33 (es_at hx35)) <| Ma 0 kl 2 qhb1 id (take_all hkl) hkl <| GI_call0 { callee := (Callee.value (Operand.tmp 40)), args := #[(Operand.tmp 44),(Operand.tmp 45)], argTypes := #[241, 61] } F #[.agg (Ci.cells x34).toArray, .agg kl.toArray] (some 46) (by kernel_rfl) (by kernel_rfl) (by kernel_rfl) (by kernel_rfl) hb (hF x34 _) ?_
  rintro _ w36 ⟨rfl, hk37⟩
  refine ⟨_, rfl, ?_⟩
  have hsz38 := Keep.size hk37
  replace hK0 := hK0.tn hk37
  refine Gn [] [6, 7] <| GI_end <| X_then <| V_ret ?_
  have hlh : lo = hi := by omega
  subst hlh
  exact Xr (.tuple #[nt (lo : Int), .bool (decide (ord x34 = 0))]) ⟨lo, _, rfl, hK0, by omega, hbef, haft, (by rw [hx35])⟩
 refine Ef 39 hg32 <| Gn [] [6, 7] <| GI_end <| X_then <| V_ret ?_
 have hlh : lo = hi := by omega
 subst hlh
 exact Xr (.tuple #[nt (lo : Int), .bool false]) ⟨lo, _, rfl, hK0, by omega, hbef, haft, (by rw [List.getElem?_eq_none (by omega)])⟩
end Go.Al.GR
