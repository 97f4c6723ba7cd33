/-
  Put together out of 11 texts: The document's ledger: Transfer. The document's ledger: Lock. Votes, weights, tallies: what is computed. Walks of package grid. Walks of package grid: slices. Walks of package grid: the grid. Walks of package grid: Set. Walks of package grid: all cells. Walks of package
-/
import Derived.Test.YtglgnmoglbbkmaaGreatVotingCountsB2
import Derived.Test.YtglgnmoglbbkmaaGreatProg
open Go.IntKind (i64)
set_option maxRecDepth 10000
namespace Go.Al
open Go Go.RowKit Go.Proofs
theorem spends_7 {xs : List Acc} {cs : List Ci} {a n : Int} (h : spendsE xs cs a n = 7) : isA a = true ∧ 0 ≤ n ∧ n ≤ 1073741824 ∧ n ≤ (acct xs a).free := by
  unfold spendsE at h
  split at h
  · cases h
  · rename_i h1
    split at h
    · cases h
    · rename_i h2
      simp only [not_or, Bool.not_eq_false, Classical.not_not] at h1
      exact ⟨h1.1, h1.2.1, h1.2.2, by omega⟩
theorem same_moved {xs : List Acc} {j : Nat} {f g n : Int} (h : xs[j]? = some ⟨f, g⟩) : (xs.set j ⟨f - n, g⟩).set j ⟨f - n + n, g⟩ = xs := by
  obtain ⟨h1, h2⟩ := List.getElem?_eq_some_iff.1 h
  rw [List.set_set, show f - n + n = f by omega, ← h2, List.set_getElem_self]
set_option maxHeartbeats 1000000 in
theorem transfer6_spec (F : Nat → Prop) (x : Nat) (xs : List Acc) (cs : List Ci) (a b n : Int) (w : World) (h : DLd F w x xs cs) : Calls Tryz.prog 79 #[pt x, nt a, nt b, nt n] w fun e w' => e = .returned (nt (transE xs cs a b n)) ∧ (∃ F', DLd F' w' x (transX xs cs a b n) (cs) ∧ (∀ q, F' q → F q ∨ w.heap.size ≤ q)) ∧ Keep F w w' := by
 have hFlt := DLd.lt h
 have hxlt := hFlt _ (DLd.at_ h)
 have hinv := DLd.inv h
 have htot1 := hinv.2.2
 have htot0 := (tot_mem hinv.2.1).1
 have hF0 : ∀ q, F q → F q ∨ w.heap.size ≤ q := fun _ h => .inl h
 have hK0 := Keep.refl F w
 refine eV ?_
 refine Vr <| On 1 [0, 1, 2, 3] <| Oe <| V_seq <| Vr <| On 1 [0, 1, 2, 3, 10] <| Kq (is6_spec b _) <| Oen [0, 1, 2, 3, 12] <| Vb (!(isA b)) (fun hc6 => ?_) (fun hc6 => ?_)
 ·
  exact Vn [8] <| Rt <| Xr (nt 1) ⟨by unfold transE; simp_all, ⟨F, by rw [show transX xs cs a b n = xs from by unfold transX; simp_all]; exact h, hF0⟩, hK0⟩
 refine Vsk <| Vr <| On 3 [0, 1, 2, 3, 13, 14, 15] <| Kk (may6_spec F x xs cs a n _ h) fun w7 hk8 _ => ?_
 replace h := DLd.keep h hk8 nk
 replace hK0 := hK0.tn hk8
 refine On 5 [0, 1, 2, 3, 9] <| Oe <| V_seq <| Vr <| On 4 [0, 1, 2, 3, 9, 20] ?_
 by_cases hg10 : a = b
 ·
  refine Dt 20 hg10 <| Oen [0, 1, 2, 3, 9, 23] <| Vi (spendsE xs cs a n = 7) (fun hc11 => ?_) (fun hc11 => ?_)
  ·
   obtain ⟨hsa, hn1, hn2, hn3⟩ := spends_7 hc11
   obtain ⟨_, hcl, hFx, _, A, cap, ds, hdx⟩ := h
   have hx := hdx.blk
   have hA := hdx.sl
   have hacc := hdx.acc
   have hall := hdx.all
   have hAx : ∀ q, inA A q → q ≠ x := fun q hq => (hdx.own q hq).2
   have hAlt := SlT.lt hA
   have hdl := de_len hacc hinv
   have hcl1 := hcl.1
   have hFlt9 : ∀ q, F q → q < w7.heap.size := ltm hFlt
   obtain ⟨j12, hj12, hjl12⟩ : ∃ j : Nat, a = j ∧ j < 10 := ⟨(a).toNat, by have h9 := hsa; simp only [isA, decide_eq_true_eq] at h9; omega, by have h9 := hsa; simp only [isA, decide_eq_true_eq] at h9; omega⟩
   have hjb : b = j12 := hg10 ▸ hj12
   refine V_region <| On 1 [0, 1, 2, 3, 9] <| Oe <| V_seq <| Vn [0, 1, 2, 3, 9, 25] <| Vf <| Vsk <| V_seq ?_
   have h10 : 0 < ds.length := by omega
   obtain ⟨b13, o13, L13, T13, rfl, hat13⟩ := SlT.opn hA
   have hb13lt := hat13.blk.lt
   have hob14 := hAx b13 ⟨_, rfl, rfl⟩
   have hob15 := hAlt b13 ⟨_, rfl, rfl⟩
   have hFb13 : b13 < w.heap.size := hFlt _ (hdx.own _ ⟨_, rfl, rfl⟩).1
   refine Vd1 (acts [12, 17]) (only b13) [5, 6, 7, 8, 9, 10, 11, 12, 0, 1, 2, 3, 4, 13, 14, 15, 16, 17] fun w17 hk16 he18 K21 _ => ?_
   replace hx := hx.k0 hk16
   replace hat13 := hat13.keep hk16 id
   replace hK0 := hK0.tn hk16
   replace hall := DAll.keep hall hk16 (fun _ _ _ _ f => f)
   have qhx := hx
   refine Gn [8, 9, 10, 11, 12, 0, 1, 2, 3, 4, 13, 14, 15, 16, 17] [0, 1, 2, 3, 34] <| Mc 0 (sl_ b13 o13 ds.length cap) qhx (by show ¬ (_ = _); omega) rfl <| Gn [10, 11, 12, 0, 1, 2, 3, 4, 13, 14, 15, 16, 17] [0, 1, 2, 3, 35, 36] <| Gp_ [(0, pt x),(1, nt a),(2, nt b),(3, nt n),(35, sl_ b13 o13 ds.length cap),(36, nt a)] <| Gq_ (u := nt a) (v := nt (j12 : Int)) 36 (by rw [hj12]) <| Gi (b := b13) (o := o13) (len := ds.length) (cap := cap) (j := j12) 138 3 40 .i64 <| Gn [12, 0, 1, 2, 3, 4, 13, 14, 15, 16, 17] [0, 1, 2, 3, 38] ?_
   obtain ⟨x22, hx23⟩ := exAt (xs := ds) (i := j12)
   obtain ⟨f24, g24, A24, c24, l24⟩ := x22
   obtain ⟨hls24, hsl24, hso24⟩ := hall j12 _ hx23
   replace hls24 : l24 = rowL (j12 : Int) cs := hls24
   replace hsl24 : SlT w17 2 lkc A24 c24 l24 := hsl24
   replace hso24 : ∀ q, inA A24 q → _ := hso24
   obtain ⟨hbf24, hbh24, hbt24, _⟩ := hinv.at_ (de_at hacc hx23)
   replace hbf24 : 0 ≤ f24 := hbf24
   replace hbh24 : 0 ≤ g24 := hbh24
   replace hbt24 : f24 + g24 ≤ 1073741824 := hbt24
   have hsw24 : ∀ q, inA A24 q → q ≠ x ∧ q ≠ b13 ∧ q < w.heap.size := fun q hq => ⟨(hso24 q hq).2.1, fun e => (hso24 q hq).2.2 ⟨_, rfl, e⟩, hFlt q (hso24 q hq).1⟩
   have hsx24 := SlT.lt hsl24
   have hac_a : acct xs a = ⟨f24, g24⟩ := by rw [hj12]; exact de_acct hacc hx23 hjl12
   have hac_b : acct xs b = ⟨f24, g24⟩ := by rw [hjb]; exact de_acct hacc hx23 hjl12
   rw [hac_a] at hn3; replace hn3 : n ≤ f24 := hn3
   refine GI_cellA 3 (.tmp 38) (o13 + j12 * 3) (nt f24) (some 39) (by kernel_rfl) (by kernel_rfl) K21 (by kernel_rfl) hat13.blk (m := 1) (by kernel_rfl) (At.cell0 hat13 (es_at hx23) rfl) <| Gn [3, 4, 13, 14, 15, 16, 17] [0, 1, 2, 3, 29, 39] <| Mc 0 (sl_ b13 o13 ds.length cap) qhx (by show ¬ (_ = _); omega) rfl ?_
   have hw25 : i64.wrap (f24 - n) = f24 - n := wrp
   refine Gs [15, 16, 17] [(0, pt x),(2, nt b),(3, nt n),(30, sl_ b13 o13 ds.length cap),(31, nt a),(41, nt (i64.wrap (f24 - n)))] <| Gq_ (u := nt (i64.wrap (f24 - n))) (v := nt (f24 - n)) 41 (by rw [hw25]) <| Gp_ [(0, pt x),(2, nt b),(3, nt n),(30, sl_ b13 o13 ds.length cap),(31, nt a),(41, nt (f24 - n))] <| Gq_ (u := nt a) (v := nt (j12 : Int)) 31 (by rw [hj12]) <| Gi (b := b13) (o := o13) (len := ds.length) (cap := cap) (j := j12) 138 3 40 .i64 <| Gn [17] [0, 2, 3, 41, 43] <| GI_final 17 (by kernel_rfl) (by kernel_rfl) <| Ts1 (DE.mk (f24 - n) g24 A24 c24 l24 : DE) 0 (nt (f24 - n)) hat13 hx23 (by simp [DE.cells, over]) ?_
   intro w26 hat30 hk28 hz29 hlhx31 hx31
   have hsz32 := Keep.size hk28
   replace hx := hx.k1 hk28
   replace hK0 := Keep.fresh hK0 hk28 (by intro i hi hs; have hs2 : i = b13 := hs; first | (exfalso; omega) | (rw [hs2]; exact (hdx.own _ ⟨_, rfl, rfl⟩).1))
   replace hall := DAll.keep hall hk28 (fun q h1 h2 h3 hs => by have hs : q = b13 := hs; exact h3 (hs ▸ ⟨_, rfl, rfl⟩))
   have hst33 := de_at hacc hx23
   have ht33 : tot (xs.set j12 (Acc.mk (f24 - n) g24)) = tot xs + ((f24 - n) + g24) - (f24 + g24) := tot_set _ hst33
   have hinv33 : Inv (xs.set j12 (Acc.mk (f24 - n) g24)) := Inv.set hinv hst33 _ (by show 0 ≤ (f24 - n); omega) (by show 0 ≤ g24; omega) (by show tot xs + ((f24 - n) + g24) - (f24 + g24) ≤ 1073741824; omega)
   replace hacc := map_set (j := j12) hacc (f24 - n) g24 A24 c24 l24
   replace hall := DAll.set hall hx23 (f24 - n) g24
   refine Oe <| V_seq <| Vd1 (acts [12, 17]) (only b13) [5, 6, 7, 8, 9, 10, 11, 12, 0, 1, 2, 3, 4, 13, 14, 15, 16, 17] fun w35 hk34 he36 K39 _ => ?_
   replace hx := hx.k0 hk34
   replace hat30 := hat30.keep hk34 id
   replace hK0 := hK0.tn hk34
   replace hall := DAll.keep hall hk34 (fun _ _ _ _ f => f)
   have qhx := hx
   refine Gn [8, 9, 10, 11, 12, 0, 1, 2, 3, 4, 13, 14, 15, 16, 17] [0, 2, 3, 51] <| Mc 0 (sl_ b13 o13 ds.length cap) qhx (by show ¬ (_ = _); omega) rfl <| Gn [10, 11, 12, 0, 1, 2, 3, 4, 13, 14, 15, 16, 17] [0, 2, 3, 52, 53] <| Gp_ [(0, pt x),(2, nt b),(3, nt n),(52, sl_ b13 o13 ds.length cap),(53, nt b)] <| Gq_ (u := nt b) (v := nt (j12 : Int)) 53 (by rw [hjb]) <| Gi (b := b13) (o := o13) (len := ds.length) (cap := cap) (j := j12) 138 3 40 .i64 <| Gn [12, 0, 1, 2, 3, 4, 13, 14, 15, 16, 17] [0, 2, 3, 55] <| GI_cellA 3 (.tmp 55) (o13 + j12 * 3) (nt (f24 - n)) (some 56) (by kernel_rfl) (by kernel_rfl) K39 (by kernel_rfl) hat30.blk (m := 1) (by kernel_rfl) (At.cell0 hat30 (es_at hx31) rfl) <| Gn [3, 4, 13, 14, 15, 16, 17] [2, 3, 46, 56] <| Mc 0 (sl_ b13 o13 ds.length cap) qhx (by show ¬ (_ = _); omega) rfl ?_
   have hw40 : i64.wrap ((f24 - n) + n) = (f24 - n) + n := wrp
   refine Gs [15, 16, 17] [(47, sl_ b13 o13 ds.length cap),(48, nt b),(58, nt (i64.wrap ((f24 - n) + n)))] <| Gq_ (u := nt (i64.wrap ((f24 - n) + n))) (v := nt ((f24 - n) + n)) 58 (by rw [hw40]) <| Gp_ [(47, sl_ b13 o13 ds.length cap),(48, nt b),(58, nt ((f24 - n) + n))] <| Gq_ (u := nt b) (v := nt (j12 : Int)) 48 (by rw [hjb]) <| Gi (b := b13) (o := o13) (len := ds.length) (cap := cap) (j := j12) 138 3 40 .i64 <| Gn [17] [58, 60] <| GI_final 17 (by kernel_rfl) (by kernel_rfl) <| Tss1 (DE.mk ((f24 - n) + n) g24 A24 c24 l24 : DE) 0 (nt ((f24 - n) + n)) hat30 hx31 (by simp [DE.cells, over]) ?_
   intro w41 hat45 hk43 hz44 hlhx46 hx46
   have hsz47 := Keep.size hk43
   replace hx := hx.k1 hk43
   replace hK0 := Keep.fresh hK0 hk43 (by intro i hi hs; have hs2 : i = b13 := hs; first | (exfalso; omega) | (rw [hs2]; exact (hdx.own _ ⟨_, rfl, rfl⟩).1))
   replace hall := DAll.keep hall hk43 (fun q h1 h2 h3 hs => by have hs : q = b13 := hs; exact h3 (hs ▸ ⟨_, rfl, rfl⟩))
   have hst48 := de_at hacc hx31
   have ht48 : tot ((xs.set j12 (Acc.mk (f24 - n) g24)).set j12 (Acc.mk ((f24 - n) + n) g24)) = tot (xs.set j12 (Acc.mk (f24 - n) g24)) + (((f24 - n) + n) + g24) - ((f24 - n) + g24) := tot_set _ hst48
   have hinv48 : Inv ((xs.set j12 (Acc.mk (f24 - n) g24)).set j12 (Acc.mk ((f24 - n) + n) g24)) := Inv.set hinv33 hst48 _ (by show 0 ≤ ((f24 - n) + n); omega) (by show 0 ≤ g24; omega) (by show tot (xs.set j12 (Acc.mk (f24 - n) g24)) + (((f24 - n) + n) + g24) - ((f24 - n) + g24) ≤ 1073741824; omega)
   replace hacc := map_set (j := j12) hacc ((f24 - n) + n) g24 A24 c24 l24
   replace hall := DAll.set hall hx31 ((f24 - n) + n) g24
   rw [List.set_set (α := DE)] at hacc hall
   exact Oer <| Oen [8] <| Rr (nt 0) ⟨by unfold transE; simp_all, ⟨F, by rw [show transX xs cs a b n = ((xs.set j12 (Acc.mk (f24 - n) g24)).set j12 (Acc.mk ((f24 - n) + n) g24)) from (show transX xs cs a b n = xs from by unfold transX; rw [hc11, if_neg (by rintro ⟨_, h⟩; cases h)]).trans (same_moved hst33).symm]; exact ⟨hinv48, hcl, hFx, fun q hq => Nat.lt_of_lt_of_le (hFlt q hq) (by omega), _, _, _, ⟨by simp only [List.length_set]; exact hx, At.slt hat45, hdx.own, hacc, hall⟩⟩, hF0⟩, hK0⟩
  refine Vsk <| V_seq <| Vn [0, 1, 2, 3, 9, 25] <| V_not (spendsE xs cs a n = 0) (by kernel_rfl) (fun hc49 => ?_) (fun hc49 => ?_)
  ·
   exact Vn [8] <| Rt <| Xr (nt (spendsE xs cs a n)) ⟨by unfold transE; simp_all, ⟨F, by rw [show transX xs cs a b n = xs from by unfold transX; simp_all]; exact h, hF0⟩, hK0⟩
  obtain ⟨hsa, hn1, hn2, hn3, _⟩ := spends_ok hinv hc49
  obtain ⟨_, hcl, hFx, _, A, cap, ds, hdx⟩ := h
  have hx := hdx.blk
  have hA := hdx.sl
  have hacc := hdx.acc
  have hall := hdx.all
  have hAx : ∀ q, inA A q → q ≠ x := fun q hq => (hdx.own q hq).2
  have hAlt := SlT.lt hA
  have hdl := de_len hacc hinv
  have hcl1 := hcl.1
  have hFlt9 : ∀ q, F q → q < w7.heap.size := ltm hFlt
  obtain ⟨j50, hj50, hjl50⟩ : ∃ j : Nat, a = j ∧ j < 10 := ⟨(a).toNat, by have h9 := hsa; simp only [isA, decide_eq_true_eq] at h9; omega, by have h9 := hsa; simp only [isA, decide_eq_true_eq] at h9; omega⟩
  have hiab : isA b = true := by simpa using hc6
  obtain ⟨j51, hj51, hjl51⟩ : ∃ j : Nat, b = j ∧ j < 10 := ⟨(b).toNat, by have h9 := hiab; simp only [isA, decide_eq_true_eq] at h9; omega, by have h9 := hiab; simp only [isA, decide_eq_true_eq] at h9; omega⟩
  refine Vsk <| V_seq ?_
  have h10 : 0 < ds.length := by omega
  obtain ⟨b52, o52, L52, T52, rfl, hat52⟩ := SlT.opn hA
  have hb52lt := hat52.blk.lt
  have hob53 := hAx b52 ⟨_, rfl, rfl⟩
  have hob54 := hAlt b52 ⟨_, rfl, rfl⟩
  have hFb52 : b52 < w.heap.size := hFlt _ (hdx.own _ ⟨_, rfl, rfl⟩).1
  refine Vd1 (acts [12, 17]) (only b52) [5, 6, 7, 8, 9, 10, 11, 12, 0, 1, 2, 3, 4, 13, 14, 15, 16, 17] fun w56 hk55 he57 K60 _ => ?_
  replace hx := hx.k0 hk55
  replace hat52 := hat52.keep hk55 id
  replace hK0 := hK0.tn hk55
  replace hall := DAll.keep hall hk55 (fun _ _ _ _ f => f)
  have qhx := hx
  refine Gn [8, 9, 10, 11, 12, 0, 1, 2, 3, 4, 13, 14, 15, 16, 17] [0, 1, 2, 3, 34] <| Mc 0 (sl_ b52 o52 ds.length cap) qhx (by show ¬ (_ = _); omega) rfl <| Gn [10, 11, 12, 0, 1, 2, 3, 4, 13, 14, 15, 16, 17] [0, 1, 2, 3, 35, 36] <| Gp_ [(0, pt x),(1, nt a),(2, nt b),(3, nt n),(35, sl_ b52 o52 ds.length cap),(36, nt a)] <| Gq_ (u := nt a) (v := nt (j50 : Int)) 36 (by rw [hj50]) <| Gi (b := b52) (o := o52) (len := ds.length) (cap := cap) (j := j50) 138 3 40 .i64 <| Gn [12, 0, 1, 2, 3, 4, 13, 14, 15, 16, 17] [0, 1, 2, 3, 38] ?_
  obtain ⟨x61, hx62⟩ := exAt (xs := ds) (i := j50)
  obtain ⟨f63, g63, A63, c63, l63⟩ := x61
  obtain ⟨hls63, hsl63, hso63⟩ := hall j50 _ hx62
  replace hls63 : l63 = rowL (j50 : Int) cs := hls63
  replace hsl63 : SlT w56 2 lkc A63 c63 l63 := hsl63
  replace hso63 : ∀ q, inA A63 q → _ := hso63
  obtain ⟨hbf63, hbh63, hbt63, _⟩ := hinv.at_ (de_at hacc hx62)
  replace hbf63 : 0 ≤ f63 := hbf63
  replace hbh63 : 0 ≤ g63 := hbh63
  replace hbt63 : f63 + g63 ≤ 1073741824 := hbt63
  have hsw63 : ∀ q, inA A63 q → q ≠ x ∧ q ≠ b52 ∧ q < w.heap.size := fun q hq => ⟨(hso63 q hq).2.1, fun e => (hso63 q hq).2.2 ⟨_, rfl, e⟩, hFlt q (hso63 q hq).1⟩
  have hsx63 := SlT.lt hsl63
  have hac_a : acct xs a = ⟨f63, g63⟩ := by rw [hj50]; exact de_acct hacc hx62 hjl50
  rw [hac_a] at hn3; replace hn3 : n ≤ f63 := hn3
  refine GI_cellA 3 (.tmp 38) (o52 + j50 * 3) (nt f63) (some 39) (by kernel_rfl) (by kernel_rfl) K60 (by kernel_rfl) hat52.blk (m := 1) (by kernel_rfl) (At.cell0 hat52 (es_at hx62) rfl) <| Gn [3, 4, 13, 14, 15, 16, 17] [0, 1, 2, 3, 29, 39] <| Mc 0 (sl_ b52 o52 ds.length cap) qhx (by show ¬ (_ = _); omega) rfl ?_
  have hw64 : i64.wrap (f63 - n) = f63 - n := wrp
  refine Gs [15, 16, 17] [(0, pt x),(2, nt b),(3, nt n),(30, sl_ b52 o52 ds.length cap),(31, nt a),(41, nt (i64.wrap (f63 - n)))] <| Gq_ (u := nt (i64.wrap (f63 - n))) (v := nt (f63 - n)) 41 (by rw [hw64]) <| Gp_ [(0, pt x),(2, nt b),(3, nt n),(30, sl_ b52 o52 ds.length cap),(31, nt a),(41, nt (f63 - n))] <| Gq_ (u := nt a) (v := nt (j50 : Int)) 31 (by rw [hj50]) <| Gi (b := b52) (o := o52) (len := ds.length) (cap := cap) (j := j50) 138 3 40 .i64 <| Gn [17] [0, 2, 3, 41, 43] <| GI_final 17 (by kernel_rfl) (by kernel_rfl) <| Ts1 (DE.mk (f63 - n) g63 A63 c63 l63 : DE) 0 (nt (f63 - n)) hat52 hx62 (by simp [DE.cells, over]) ?_
  intro w65 hat69 hk67 hz68 hlhx70 hx70
  have hsz71 := Keep.size hk67
  replace hx := hx.k1 hk67
  replace hK0 := Keep.fresh hK0 hk67 (by intro i hi hs; have hs2 : i = b52 := hs; first | (exfalso; omega) | (rw [hs2]; exact (hdx.own _ ⟨_, rfl, rfl⟩).1))
  replace hall := DAll.keep hall hk67 (fun q h1 h2 h3 hs => by have hs : q = b52 := hs; exact h3 (hs ▸ ⟨_, rfl, rfl⟩))
  have hst72 := de_at hacc hx62
  have ht72 : tot (xs.set j50 (Acc.mk (f63 - n) g63)) = tot xs + ((f63 - n) + g63) - (f63 + g63) := tot_set _ hst72
  have hinv72 : Inv (xs.set j50 (Acc.mk (f63 - n) g63)) := Inv.set hinv hst72 _ (by show 0 ≤ (f63 - n); omega) (by show 0 ≤ g63; omega) (by show tot xs + ((f63 - n) + g63) - (f63 + g63) ≤ 1073741824; omega)
  replace hacc := map_set (j := j50) hacc (f63 - n) g63 A63 c63 l63
  replace hall := DAll.set hall hx62 (f63 - n) g63
  refine Oe <| V_seq <| Vd1 (acts [12, 17]) (only b52) [5, 6, 7, 8, 9, 10, 11, 12, 0, 1, 2, 3, 4, 13, 14, 15, 16, 17] fun w74 hk73 he75 K78 _ => ?_
  replace hx := hx.k0 hk73
  replace hat69 := hat69.keep hk73 id
  replace hK0 := hK0.tn hk73
  replace hall := DAll.keep hall hk73 (fun _ _ _ _ f => f)
  have qhx := hx
  refine Gn [8, 9, 10, 11, 12, 0, 1, 2, 3, 4, 13, 14, 15, 16, 17] [0, 2, 3, 51] <| Mc 0 (sl_ b52 o52 ds.length cap) qhx (by show ¬ (_ = _); omega) rfl <| Gn [10, 11, 12, 0, 1, 2, 3, 4, 13, 14, 15, 16, 17] [0, 2, 3, 52, 53] <| Gp_ [(0, pt x),(2, nt b),(3, nt n),(52, sl_ b52 o52 ds.length cap),(53, nt b)] <| Gq_ (u := nt b) (v := nt (j51 : Int)) 53 (by rw [hj51]) <| Gi (b := b52) (o := o52) (len := ds.length) (cap := cap) (j := j51) 138 3 40 .i64 <| Gn [12, 0, 1, 2, 3, 4, 13, 14, 15, 16, 17] [0, 2, 3, 55] ?_
  obtain ⟨x79, hx80⟩ := exAt (xs := ds.set j50 (DE.mk (f63 - n) g63 A63 c63 l63)) (i := j51)
  obtain ⟨f81, g81, A81, c81, l81⟩ := x79
  obtain ⟨hls81, hsl81, hso81⟩ := hall j51 _ hx80
  replace hls81 : l81 = rowL (j51 : Int) cs := hls81
  replace hsl81 : SlT w74 2 lkc A81 c81 l81 := hsl81
  replace hso81 : ∀ q, inA A81 q → _ := hso81
  obtain ⟨hbf81, hbh81, hbt81, _⟩ := hinv72.at_ (de_at hacc hx80)
  replace hbf81 : 0 ≤ f81 := hbf81
  replace hbh81 : 0 ≤ g81 := hbh81
  replace hbt81 : f81 + g81 ≤ 1073741824 := hbt81
  have hsw81 : ∀ q, inA A81 q → q ≠ x ∧ q ≠ b52 ∧ q < w.heap.size := fun q hq => ⟨(hso81 q hq).2.1, fun e => (hso81 q hq).2.2 ⟨_, rfl, e⟩, hFlt q (hso81 q hq).1⟩
  have hsx81 := SlT.lt hsl81
  refine GI_cellA 3 (.tmp 55) (o52 + j51 * 3) (nt f81) (some 56) (by kernel_rfl) (by kernel_rfl) K78 (by kernel_rfl) hat69.blk (m := 1) (by kernel_rfl) (At.cell0 hat69 (es_at hx80) rfl) <| Gn [3, 4, 13, 14, 15, 16, 17] [2, 3, 46, 56] <| Mc 0 (sl_ b52 o52 ds.length cap) qhx (by show ¬ (_ = _); omega) rfl ?_
  have hw82 : i64.wrap (f81 + n) = f81 + n := wrp
  refine Gs [15, 16, 17] [(47, sl_ b52 o52 ds.length cap),(48, nt b),(58, nt (i64.wrap (f81 + n)))] <| Gq_ (u := nt (i64.wrap (f81 + n))) (v := nt (f81 + n)) 58 (by rw [hw82]) <| Gp_ [(47, sl_ b52 o52 ds.length cap),(48, nt b),(58, nt (f81 + n))] <| Gq_ (u := nt b) (v := nt (j51 : Int)) 48 (by rw [hj51]) <| Gi (b := b52) (o := o52) (len := ds.length) (cap := cap) (j := j51) 138 3 40 .i64 <| Gn [17] [58, 60] <| GI_final 17 (by kernel_rfl) (by kernel_rfl) <| Ts1 (DE.mk (f81 + n) g81 A81 c81 l81 : DE) 0 (nt (f81 + n)) hat69 hx80 (by simp [DE.cells, over]) ?_
  intro w83 hat87 hk85 hz86 hlhx88 hx88
  have hsz89 := Keep.size hk85
  replace hx := hx.k1 hk85
  replace hK0 := Keep.fresh hK0 hk85 (by intro i hi hs; have hs2 : i = b52 := hs; first | (exfalso; omega) | (rw [hs2]; exact (hdx.own _ ⟨_, rfl, rfl⟩).1))
  replace hall := DAll.keep hall hk85 (fun q h1 h2 h3 hs => by have hs : q = b52 := hs; exact h3 (hs ▸ ⟨_, rfl, rfl⟩))
  have hst90 := de_at hacc hx80
  have ht90 : tot ((xs.set j50 (Acc.mk (f63 - n) g63)).set j51 (Acc.mk (f81 + n) g81)) = tot (xs.set j50 (Acc.mk (f63 - n) g63)) + ((f81 + n) + g81) - (f81 + g81) := tot_set _ hst90
  have hinv90 : Inv ((xs.set j50 (Acc.mk (f63 - n) g63)).set j51 (Acc.mk (f81 + n) g81)) := Inv.set hinv72 hst90 _ (by show 0 ≤ (f81 + n); omega) (by show 0 ≤ g81; omega) (by show tot (xs.set j50 (Acc.mk (f63 - n) g63)) + ((f81 + n) + g81) - (f81 + g81) ≤ 1073741824; omega)
  replace hacc := map_set (j := j51) hacc (f81 + n) g81 A81 c81 l81
  replace hall := DAll.set hall hx80 (f81 + n) g81
  exact Oer <| Oen [8] <| Rr (nt 0) ⟨by unfold transE; simp_all, ⟨F, by rw [show transX xs cs a b n = addF (subF xs a n) b n from by unfold transX; rw [if_pos ⟨hiab, hc49⟩], show subF xs a n = _ from by unfold subF; rw [setA_at hj50, acct_at hj50 hst72 hjl50], show addF (xs.set j50 (Acc.mk (f63 - n) g63)) b n = _ from by unfold addF; rw [setA_at hj51, acct_at hj51 hst90 hjl51]]; exact ⟨hinv90, hcl, hFx, fun q hq => Nat.lt_of_lt_of_le (hFlt q hq) (by omega), _, _, _, ⟨by simp only [List.length_set]; exact hx, At.slt hat87, hdx.own, hacc, hall⟩⟩, hF0⟩, hK0⟩
 refine Df 20 hg10 <| Oen [0, 1, 2, 3, 9, 23] <| Vf <| Vsk <| V_seq <| Vn [0, 1, 2, 3, 9, 25] <| V_not (spendsE xs cs a n = 0) (by kernel_rfl) (fun hc91 => ?_) (fun hc91 => ?_)
 ·
  exact Vn [8] <| Rt <| Xr (nt (spendsE xs cs a n)) ⟨by unfold transE; simp_all, ⟨F, by rw [show transX xs cs a b n = xs from by unfold transX; simp_all]; exact h, hF0⟩, hK0⟩
 obtain ⟨hsa, hn1, hn2, hn3, _⟩ := spends_ok hinv hc91
 obtain ⟨_, hcl, hFx, _, A, cap, ds, hdx⟩ := h
 have hx := hdx.blk
 have hA := hdx.sl
 have hacc := hdx.acc
 have hall := hdx.all
 have hAx : ∀ q, inA A q → q ≠ x := fun q hq => (hdx.own q hq).2
 have hAlt := SlT.lt hA
 have hdl := de_len hacc hinv
 have hcl1 := hcl.1
 have hFlt9 : ∀ q, F q → q < w7.heap.size := ltm hFlt
 obtain ⟨j92, hj92, hjl92⟩ : ∃ j : Nat, a = j ∧ j < 10 := ⟨(a).toNat, by have h9 := hsa; simp only [isA, decide_eq_true_eq] at h9; omega, by have h9 := hsa; simp only [isA, decide_eq_true_eq] at h9; omega⟩
 have hiab : isA b = true := by simpa using hc6
 obtain ⟨j93, hj93, hjl93⟩ : ∃ j : Nat, b = j ∧ j < 10 := ⟨(b).toNat, by have h9 := hiab; simp only [isA, decide_eq_true_eq] at h9; omega, by have h9 := hiab; simp only [isA, decide_eq_true_eq] at h9; omega⟩
 refine Vsk <| V_seq ?_
 have h10 : 0 < ds.length := by omega
 obtain ⟨b94, o94, L94, T94, rfl, hat94⟩ := SlT.opn hA
 have hb94lt := hat94.blk.lt
 have hob95 := hAx b94 ⟨_, rfl, rfl⟩
 have hob96 := hAlt b94 ⟨_, rfl, rfl⟩
 have hFb94 : b94 < w.heap.size := hFlt _ (hdx.own _ ⟨_, rfl, rfl⟩).1
 refine Vd1 (acts [12, 17]) (only b94) [5, 6, 7, 8, 9, 10, 11, 12, 0, 1, 2, 3, 4, 13, 14, 15, 16, 17] fun w98 hk97 he99 K102 _ => ?_
 replace hx := hx.k0 hk97
 replace hat94 := hat94.keep hk97 id
 replace hK0 := hK0.tn hk97
 replace hall := DAll.keep hall hk97 (fun _ _ _ _ f => f)
 have qhx := hx
 refine Gn [8, 9, 10, 11, 12, 0, 1, 2, 3, 4, 13, 14, 15, 16, 17] [0, 1, 2, 3, 34] <| Mc 0 (sl_ b94 o94 ds.length cap) qhx (by show ¬ (_ = _); omega) rfl <| Gn [10, 11, 12, 0, 1, 2, 3, 4, 13, 14, 15, 16, 17] [0, 1, 2, 3, 35, 36] <| Gp_ [(0, pt x),(1, nt a),(2, nt b),(3, nt n),(35, sl_ b94 o94 ds.length cap),(36, nt a)] <| Gq_ (u := nt a) (v := nt (j92 : Int)) 36 (by rw [hj92]) <| Gi (b := b94) (o := o94) (len := ds.length) (cap := cap) (j := j92) 138 3 40 .i64 <| Gn [12, 0, 1, 2, 3, 4, 13, 14, 15, 16, 17] [0, 1, 2, 3, 38] ?_
 obtain ⟨x103, hx104⟩ := exAt (xs := ds) (i := j92)
 obtain ⟨f105, g105, A105, c105, l105⟩ := x103
 obtain ⟨hls105, hsl105, hso105⟩ := hall j92 _ hx104
 replace hls105 : l105 = rowL (j92 : Int) cs := hls105
 replace hsl105 : SlT w98 2 lkc A105 c105 l105 := hsl105
 replace hso105 : ∀ q, inA A105 q → _ := hso105
 obtain ⟨hbf105, hbh105, hbt105, _⟩ := hinv.at_ (de_at hacc hx104)
 replace hbf105 : 0 ≤ f105 := hbf105
 replace hbh105 : 0 ≤ g105 := hbh105
 replace hbt105 : f105 + g105 ≤ 1073741824 := hbt105
 have hsw105 : ∀ q, inA A105 q → q ≠ x ∧ q ≠ b94 ∧ q < w.heap.size := fun q hq => ⟨(hso105 q hq).2.1, fun e => (hso105 q hq).2.2 ⟨_, rfl, e⟩, hFlt q (hso105 q hq).1⟩
 have hsx105 := SlT.lt hsl105
 have hac_a : acct xs a = ⟨f105, g105⟩ := by rw [hj92]; exact de_acct hacc hx104 hjl92
 rw [hac_a] at hn3; replace hn3 : n ≤ f105 := hn3
 refine GI_cellA 3 (.tmp 38) (o94 + j92 * 3) (nt f105) (some 39) (by kernel_rfl) (by kernel_rfl) K102 (by kernel_rfl) hat94.blk (m := 1) (by kernel_rfl) (At.cell0 hat94 (es_at hx104) rfl) <| Gn [3, 4, 13, 14, 15, 16, 17] [0, 1, 2, 3, 29, 39] <| Mc 0 (sl_ b94 o94 ds.length cap) qhx (by show ¬ (_ = _); omega) rfl ?_
 have hw106 : i64.wrap (f105 - n) = f105 - n := wrp
 refine Gs [15, 16, 17] [(0, pt x),(2, nt b),(3, nt n),(30, sl_ b94 o94 ds.length cap),(31, nt a),(41, nt (i64.wrap (f105 - n)))] <| Gq_ (u := nt (i64.wrap (f105 - n))) (v := nt (f105 - n)) 41 (by rw [hw106]) <| Gp_ [(0, pt x),(2, nt b),(3, nt n),(30, sl_ b94 o94 ds.length cap),(31, nt a),(41, nt (f105 - n))] <| Gq_ (u := nt a) (v := nt (j92 : Int)) 31 (by rw [hj92]) <| Gi (b := b94) (o := o94) (len := ds.length) (cap := cap) (j := j92) 138 3 40 .i64 <| Gn [17] [0, 2, 3, 41, 43] <| GI_final 17 (by kernel_rfl) (by kernel_rfl) <| Ts1 (DE.mk (f105 - n) g105 A105 c105 l105 : DE) 0 (nt (f105 - n)) hat94 hx104 (by simp [DE.cells, over]) ?_
 intro w107 hat111 hk109 hz110 hlhx112 hx112
 have hsz113 := Keep.size hk109
 replace hx := hx.k1 hk109
 replace hK0 := Keep.fresh hK0 hk109 (by intro i hi hs; have hs2 : i = b94 := hs; first | (exfalso; omega) | (rw [hs2]; exact (hdx.own _ ⟨_, rfl, rfl⟩).1))
 replace hall := DAll.keep hall hk109 (fun q h1 h2 h3 hs => by have hs : q = b94 := hs; exact h3 (hs ▸ ⟨_, rfl, rfl⟩))
 have hst114 := de_at hacc hx104
 have ht114 : tot (xs.set j92 (Acc.mk (f105 - n) g105)) = tot xs + ((f105 - n) + g105) - (f105 + g105) := tot_set _ hst114
 have hinv114 : Inv (xs.set j92 (Acc.mk (f105 - n) g105)) := Inv.set hinv hst114 _ (by show 0 ≤ (f105 - n); omega) (by show 0 ≤ g105; omega) (by show tot xs + ((f105 - n) + g105) - (f105 + g105) ≤ 1073741824; omega)
 replace hacc := map_set (j := j92) hacc (f105 - n) g105 A105 c105 l105
 replace hall := DAll.set hall hx104 (f105 - n) g105
 refine Oe <| V_seq <| Vd1 (acts [12, 17]) (only b94) [5, 6, 7, 8, 9, 10, 11, 12, 0, 1, 2, 3, 4, 13, 14, 15, 16, 17] fun w116 hk115 he117 K120 _ => ?_
 replace hx := hx.k0 hk115
 replace hat111 := hat111.keep hk115 id
 replace hK0 := hK0.tn hk115
 replace hall := DAll.keep hall hk115 (fun _ _ _ _ f => f)
 have qhx := hx
 refine Gn [8, 9, 10, 11, 12, 0, 1, 2, 3, 4, 13, 14, 15, 16, 17] [0, 2, 3, 51] <| Mc 0 (sl_ b94 o94 ds.length cap) qhx (by show ¬ (_ = _); omega) rfl <| Gn [10, 11, 12, 0, 1, 2, 3, 4, 13, 14, 15, 16, 17] [0, 2, 3, 52, 53] <| Gp_ [(0, pt x),(2, nt b),(3, nt n),(52, sl_ b94 o94 ds.length cap),(53, nt b)] <| Gq_ (u := nt b) (v := nt (j93 : Int)) 53 (by rw [hj93]) <| Gi (b := b94) (o := o94) (len := ds.length) (cap := cap) (j := j93) 138 3 40 .i64 <| Gn [12, 0, 1, 2, 3, 4, 13, 14, 15, 16, 17] [0, 2, 3, 55] ?_
 obtain ⟨x121, hx122⟩ := exAt (xs := ds.set j92 (DE.mk (f105 - n) g105 A105 c105 l105)) (i := j93)
 obtain ⟨f123, g123, A123, c123, l123⟩ := x121
 obtain ⟨hls123, hsl123, hso123⟩ := hall j93 _ hx122
 replace hls123 : l123 = rowL (j93 : Int) cs := hls123
 replace hsl123 : SlT w116 2 lkc A123 c123 l123 := hsl123
 replace hso123 : ∀ q, inA A123 q → _ := hso123
 obtain ⟨hbf123, hbh123, hbt123, _⟩ := hinv114.at_ (de_at hacc hx122)
 replace hbf123 : 0 ≤ f123 := hbf123
 replace hbh123 : 0 ≤ g123 := hbh123
 replace hbt123 : f123 + g123 ≤ 1073741824 := hbt123
 have hsw123 : ∀ q, inA A123 q → q ≠ x ∧ q ≠ b94 ∧ q < w.heap.size := fun q hq => ⟨(hso123 q hq).2.1, fun e => (hso123 q hq).2.2 ⟨_, rfl, e⟩, hFlt q (hso123 q hq).1⟩
 have hsx123 := SlT.lt hsl123
 refine GI_cellA 3 (.tmp 55) (o94 + j93 * 3) (nt f123) (some 56) (by kernel_rfl) (by kernel_rfl) K120 (by kernel_rfl) hat111.blk (m := 1) (by kernel_rfl) (At.cell0 hat111 (es_at hx122) rfl) <| Gn [3, 4, 13, 14, 15, 16, 17] [2, 3, 46, 56] <| Mc 0 (sl_ b94 o94 ds.length cap) qhx (by show ¬ (_ = _); omega) rfl ?_
 have hw124 : i64.wrap (f123 + n) = f123 + n := wrp
 refine Gs [15, 16, 17] [(47, sl_ b94 o94 ds.length cap),(48, nt b),(58, nt (i64.wrap (f123 + n)))] <| Gq_ (u := nt (i64.wrap (f123 + n))) (v := nt (f123 + n)) 58 (by rw [hw124]) <| Gp_ [(47, sl_ b94 o94 ds.length cap),(48, nt b),(58, nt (f123 + n))] <| Gq_ (u := nt b) (v := nt (j93 : Int)) 48 (by rw [hj93]) <| Gi (b := b94) (o := o94) (len := ds.length) (cap := cap) (j := j93) 138 3 40 .i64 <| Gn [17] [58, 60] <| GI_final 17 (by kernel_rfl) (by kernel_rfl) <| Ts1 (DE.mk (f123 + n) g123 A123 c123 l123 : DE) 0 (nt (f123 + n)) hat111 hx122 (by simp [DE.cells, over]) ?_
 intro w125 hat129 hk127 hz128 hlhx130 hx130
 have hsz131 := Keep.size hk127
 replace hx := hx.k1 hk127
 replace hK0 := Keep.fresh hK0 hk127 (by intro i hi hs; have hs2 : i = b94 := hs; first | (exfalso; omega) | (rw [hs2]; exact (hdx.own _ ⟨_, rfl, rfl⟩).1))
 replace hall := DAll.keep hall hk127 (fun q h1 h2 h3 hs => by have hs : q = b94 := hs; exact h3 (hs ▸ ⟨_, rfl, rfl⟩))
 have hst132 := de_at hacc hx122
 have ht132 : tot ((xs.set j92 (Acc.mk (f105 - n) g105)).set j93 (Acc.mk (f123 + n) g123)) = tot (xs.set j92 (Acc.mk (f105 - n) g105)) + ((f123 + n) + g123) - (f123 + g123) := tot_set _ hst132
 have hinv132 : Inv ((xs.set j92 (Acc.mk (f105 - n) g105)).set j93 (Acc.mk (f123 + n) g123)) := Inv.set hinv114 hst132 _ (by show 0 ≤ (f123 + n); omega) (by show 0 ≤ g123; omega) (by show tot (xs.set j92 (Acc.mk (f105 - n) g105)) + ((f123 + n) + g123) - (f123 + g123) ≤ 1073741824; omega)
 replace hacc := map_set (j := j93) hacc (f123 + n) g123 A123 c123 l123
 replace hall := DAll.set hall hx122 (f123 + n) g123
 exact Oer <| Oen [8] <| Rr (nt 0) ⟨by unfold transE; simp_all, ⟨F, by rw [show transX xs cs a b n = addF (subF xs a n) b n from by unfold transX; rw [if_pos ⟨hiab, hc91⟩], show subF xs a n = _ from by unfold subF; rw [setA_at hj92, acct_at hj92 hst114 hjl92], show addF (xs.set j92 (Acc.mk (f105 - n) g105)) b n = _ from by unfold addF; rw [setA_at hj93, acct_at hj93 hst132 hjl93]]; exact ⟨hinv132, hcl, hFx, fun q hq => Nat.lt_of_lt_of_le (hFlt q hq) (by omega), _, _, _, ⟨by simp only [List.length_set]; exact hx, At.slt hat129, hdx.own, hacc, hall⟩⟩, hF0⟩, hK0⟩
end Go.Al
namespace Go.Al
open Go Go.RowKit Go.Proofs
theorem okC_lock {cs : List Ci} (h : OkC cs) (hm : cs.length < 90000) (a di n : Int) : OkC (lockC cs a di n) := by
  unfold lockC
  split
  · rename_i ha
    split
    · obtain ⟨h1, h2⟩ := Srt.del h.2.1 a di
      refine ⟨by omega, h1, fun c hc => h.2.2 c ?_⟩
      have : ∀ (l : List Ci), c ∈ delC a di l → c ∈ l := by
        intro l
        induction l with
        | nil => exact fun h => h
        | cons y l ih =>
          rw [delC]
          split
          · exact List.mem_cons_of_mem _
          · intro h
            rcases List.mem_cons.1 h with rfl | h
            · exact List.mem_cons_self ..
            · exact List.mem_cons_of_mem _ (ih h)
      exact this _ hc
    · obtain ⟨h1, h2⟩ := Srt.set (a := a) (b := di) (v := n) h.2.1
      refine ⟨by omega, h1, fun c hc => ?_⟩
      rcases setC_mem hc with ⟨h3, _⟩ | h3
      · rw [h3]; exact ha
      · exact h.2.2 c h3
  · exact h
theorem set_same {xs : List Acc} {j : Nat} {f g : Int} (h : xs[j]? = some ⟨f, g⟩) : xs.set j ⟨f, g⟩ = xs := by
  obtain ⟨h1, h2⟩ := List.getElem?_eq_some_iff.1 h
  rw [← h2, List.set_getElem_self]
theorem DAll.lock {F F' : Nat → Prop} {w : World} {x : Nat} {A : Option Addr} {ds : List DE} {cs cs' : List Ci} {j : Nat} {f g : Int} {A0 A9 : Option Addr} {c0 c9 : Nat} {l0 ys : List (Int × Int)} (h : DAll F w x A ds cs) (hd : ds[j]? = some ⟨f, g, A0, c0, l0⟩) (hys : ys = rowL (j : Int) cs') (ho : ∀ i : Nat, i ≠ j → rowL (i : Int) cs' = rowL (i : Int) cs)
    (hsl : SlT w 2 lkc A9 c9 ys) (hown : ∀ q, inA A9 q → F' q ∧ q ≠ x ∧ ¬ inA A q) (hF : ∀ q, F q → F' q) : DAll F' w x A (ds.set j ⟨f, g, A9, c9, ys⟩) cs' := fun i e he => by
  by_cases hij : i = j
  · subst hij
    rw [List.getElem?_set_self (List.getElem?_eq_some_iff.1 hd).1] at he
    simp only [Option.some.injEq] at he
    subst he
    exact ⟨hys, hsl, hown⟩
  · rw [List.getElem?_set_ne (Ne.symm hij)] at he
    obtain ⟨h1, h2, h3⟩ := h i e he
    exact ⟨h1.trans (ho i hij).symm, h2, fun q hq => ⟨hF q (h3 q hq).1, (h3 q hq).2⟩⟩
set_option maxHeartbeats 1000000 in
theorem lock6_spec (F : Nat → Prop) (x : Nat) (xs : List Acc) (cs : List Ci) (a di n : Int) (w : World) (h : DLd F w x xs cs) (hmax : cs.length < 90000) : Calls Tryz.prog 110 #[pt x, nt a, nt di, nt n] w fun e w' => e = .returned (.tuple #[]) ∧ (∃ F', DLd F' w' x xs (lockC cs a di n) ∧ (∀ q, F' q → F q ∨ w.heap.size ≤ q)) ∧ Keep F w w' := by
 have hFlt := DLd.lt h
 have hxlt := hFlt _ (DLd.at_ h)
 have hinv := DLd.inv h
 have htot1 := hinv.2.2
 have htot0 := (tot_mem hinv.2.1).1
 have hF0 : ∀ q, F q → F q ∨ w.heap.size ≤ q := fun _ h => .inl h
 have hK0 := Keep.refl F w
 refine eV ?_
 refine V_seq <| Vr <| On 1 [0, 1, 2, 3, 12] <| Kq (is6_spec a _) <| Ose [(0, pt x),(1, nt a),(2, nt di),(3, nt n),(14, .bool (!(isA a)))] <| Vb (!(isA a)) (fun hc4 => ?_) (fun hc4 => ?_)
 ·
  refine Rt ?_
  exact X_return _ rfl ⟨rfl, ⟨F, by rw [show lockC cs a di n = cs from by unfold lockC; rw [if_neg]; simp_all]; exact h, hF0⟩, hK0⟩
 have hsa : isA a = true := by simpa using hc4
 obtain ⟨_, hcl, hFx, _, A, cap, ds, hdx⟩ := h
 have hx := hdx.blk
 have hA := hdx.sl
 have hacc := hdx.acc
 have hall := hdx.all
 have hAx : ∀ q, inA A q → q ≠ x := fun q hq => (hdx.own q hq).2
 have hAlt := SlT.lt hA
 have hdl := de_len hacc hinv
 have hcl1 := hcl.1
 have hFlt9 : ∀ q, F q → q < w.heap.size := ltm hFlt
 obtain ⟨j5, hj5, hjl5⟩ : ∃ j : Nat, a = j ∧ j < 10 := ⟨(a).toNat, by have h9 := hsa; simp only [isA, decide_eq_true_eq] at h9; omega, by have h9 := hsa; simp only [isA, decide_eq_true_eq] at h9; omega⟩
 refine Vsk <| Vs [(0, pt x),(1, nt a),(2, nt di),(3, nt n),(8, .slice none 0 0)] <| V_seqJ (fun wI e => ∃ lb : Bool, (lb = decide (n ≤ 0 ∨ n > 1073741824)) ∧ w = wI ∧ e = [(0, pt x),(1, nt a),(2, nt di),(3, nt n),(8, .slice none 0 0),(9, .bool lb)]) ?_ ?_
 ·
  refine V_region <| On 3 [0, 1, 2, 3, 8, 17] ?_
  by_cases hg6 : n ≤ 0
  ·
   refine Dt 17 hg6 <| Os 7 [(0, pt x),(1, nt a),(2, nt di),(3, nt n),(8, .slice none 0 0),(9, .bool true)] <| OI_end rfl ?_
   exact X_join [(0, pt x),(1, nt a),(2, nt di),(3, nt n),(8, .slice none 0 0),(9, .bool true)] rfl ⟨true, by first | exact (decide_eq_true (by omega)).symm | exact (decide_eq_false (by omega)).symm | simp [*], rfl, rfl⟩
  refine Df 17 hg6 <| Os 7 [(0, pt x),(1, nt a),(2, nt di),(3, nt n),(8, .slice none 0 0),(9, .bool (decide (n > 1073741824)))] <| OI_end rfl ?_
  exact X_join [(0, pt x),(1, nt a),(2, nt di),(3, nt n),(8, .slice none 0 0),(9, .bool (decide (n > 1073741824)))] rfl ⟨(decide (n > 1073741824)), by first | exact (decide_eq_true (by omega)).symm | exact (decide_eq_false (by omega)).symm | simp [*], rfl, rfl⟩
 ·
  rintro _ _ ⟨lb, hlb, rfl, rfl⟩
  refine V_seq <| Vn [0, 1, 2, 3, 8, 9, 10] <| V_block <| Vp [(0, pt x),(1, nt a),(2, nt di),(3, nt n),(8, .slice none 0 0),(9, .bool lb),(10, nt 0)] <| V_loop (fun k wI e => ∃ i : Nat, ∃ lb2 : Bool, ∃ A2 : Option Addr, ∃ cap2 : Nat, ∃ ys : List (Int × Int),(k + i = (rowL (j5 : Int) cs).length) ∧ (lkR di n lb2 ys ((rowL (j5 : Int) cs).drop i) = lkR di n lb [] (rowL (j5 : Int) cs)) ∧ (SlT wI 2 lkc A2 cap2 ys) ∧ (∀ q, inA A2 q → w.heap.size ≤ q) ∧ (ys.length ≤ 2 * i) ∧ Keep none_ w wI ∧ e = [(0, pt x),(1, nt a),(2, nt di),(3, nt n),(8, .slice A2 ys.length cap2),(9, .bool lb2),(10, nt (i : Int))]) ((rowL (j5 : Int) cs).length) ⟨0, lb, none, 0, [], by omega, rfl, SlT.nil _ _ _, fun q h => (inA_none h).elim, by simp, Keep.refl _ _, rfl⟩ ?_
  rintro k10 w9 _ ⟨i, lb2, A2, cap2, ys, hki, hlk, hA2, ow2, hyl, hk11, rfl⟩
  have hsz12 := Keep.size hk11
  replace hx := hx.k0 hk11
  replace hA := hA.keep0 hk11
  replace hK0 := hK0.tn hk11
  replace hall := DAll.keep hall hk11 (fun _ _ _ _ f => f)
  have hzhk11 := Keep.size hk11
  have lt2 := SlT.lt hA2
  have hrl : (rowL (j5 : Int) cs).length ≤ cs.length := by unfold rowL; rw [List.length_map]; exact List.length_filter_le ..
  refine V_seq <| Vr <| On 4 [0, 1, 2, 3, 8, 9, 10, 21, 24] <| Lr 0 (.slice A ds.length cap) hx <| On 6 [0, 1, 2, 3, 8, 9, 10, 21, 25, 26] ?_
  obtain ⟨b13, o13, L13, T13, rfl, hat13⟩ := SlT.opn hA
  have hb13lt := hat13.blk.lt
  have hob14 := hAx b13 ⟨_, rfl, rfl⟩
  have hob15 := hAlt b13 ⟨_, rfl, rfl⟩
  have hFb13 : b13 < w.heap.size := hFlt _ (hdx.own _ ⟨_, rfl, rfl⟩).1
  refine Op_ [(0, pt x),(1, nt a),(2, nt di),(3, nt n),(8, .slice A2 ys.length cap2),(9, .bool lb2),(10, nt (i : Int)),(21, nt (i : Int)),(25, sl_ b13 o13 ds.length cap),(26, nt a)] <| Oq (u := nt a) (v := nt (j5 : Int)) 26 (by rw [hj5]) <| Oi (b := b13) (o := o13) (len := ds.length) (cap := cap) (j := j5) (some 27) 133 (.tmp 25) (.tmp 26) 138 3 40 .i64 <| On 8 [0, 1, 2, 3, 8, 9, 10, 21, 28] ?_
  obtain ⟨x16, hx17⟩ := exAt (xs := ds) (i := j5)
  obtain ⟨f18, g18, A18, c18, l18⟩ := x16
  obtain ⟨hls18, hsl18, hso18⟩ := hall j5 _ hx17
  replace hls18 : l18 = rowL (j5 : Int) cs := hls18
  replace hsl18 : SlT w9 2 lkc A18 c18 l18 := hsl18
  replace hso18 : ∀ q, inA A18 q → _ := hso18
  obtain ⟨hbf18, hbh18, hbt18, _⟩ := hinv.at_ (de_at hacc hx17)
  replace hbf18 : 0 ≤ f18 := hbf18
  replace hbh18 : 0 ≤ g18 := hbh18
  replace hbt18 : f18 + g18 ≤ 1073741824 := hbt18
  have hsw18 : ∀ q, inA A18 q → q ≠ x ∧ q ≠ b13 ∧ q < w.heap.size := fun q hq => ⟨(hso18 q hq).2.1, fun e => (hso18 q hq).2.2 ⟨_, rfl, e⟩, hFlt q (hso18 q hq).1⟩
  have hsx18 := SlT.lt hsl18
  have hac_a : acct xs a = ⟨f18, g18⟩ := by rw [hj5]; exact de_acct hacc hx17 hjl5
  have hll18 : l18.length = (rowL (j5 : Int) cs).length := by rw [hls18]
  refine Lc (o13 + j5 * 3 + 2) (.slice A18 l18.length c18) hat13.blk (At.cell hat13 (es_at hx17) rfl) <| Oen [0, 1, 2, 3, 8, 9, 10, 31] <| Vi ((i : Int) < (l18.length : Int)) (fun hc19 => ?_) (fun hc19 => ?_)
  ·
   refine Vsk <| V_seq <| V_block <| Vr <| On 3 [0, 1, 2, 3, 8, 9, 10, 36] <| Lr 0 (sl_ b13 o13 ds.length cap) hx <| On 5 [0, 1, 2, 3, 8, 9, 10, 37, 38] <| Op_ [(0, pt x),(1, nt a),(2, nt di),(3, nt n),(8, .slice A2 ys.length cap2),(9, .bool lb2),(10, nt (i : Int)),(37, sl_ b13 o13 ds.length cap),(38, nt a)] <| Oq (u := nt a) (v := nt (j5 : Int)) 38 (by rw [hj5]) <| Oi (b := b13) (o := o13) (len := ds.length) (cap := cap) (j := j5) (some 39) 133 (.tmp 37) (.tmp 38) 138 3 40 .i64 <| On 7 [0, 1, 2, 3, 8, 9, 10, 40] <| Lc (o13 + j5 * 3 + 2) (.slice A18 l18.length c18) hat13.blk (At.cell hat13 (es_at hx17) rfl) <| On 9 [0, 1, 2, 3, 8, 9, 10, 41, 42] ?_
   obtain ⟨b20, o20, L20, T20, rfl, hat20⟩ := SlT.opn hsl18
   have hb20lt := hat20.blk.lt
   have hob21 := hsw18 b20 ⟨_, rfl, rfl⟩
   have hob22 := hsx18 b20 ⟨_, rfl, rfl⟩
   have hFb20 : b20 < w.heap.size := hFlt _ (hso18 _ ⟨_, rfl, rfl⟩).1
   refine Oi (b := b20) (o := o20) (len := l18.length) (cap := c18) (j := i) (some 43) 136 (.tmp 41) (.tmp 42) 171 2 16 .i64 ?_
   obtain ⟨x23, hx24⟩ := exAt (xs := l18) (i := i)
   refine La (o20 + i * 2) (lkc x23) 2 hat20.blk (At.elem' hat20 (es_at hx24)) (At.len hat20 (es_at hx24)) <| Alc_ 171 (.agg #[nt 0, nt 0]) [nt 0, nt 0] ?_
   intro b25 w25 e25 hb25 k25 z25
   have hsz26 := Keep.size k25
   replace hA2 := hA2.keep0 k25
   replace hk11 := hk11.tn k25
   have hb25lt := hb25.lt
   refine Sg 0 (lkc x23) hb25 (lkc_len _) (lkc_one _) ?_
   intro w27 hb25_30 hk28 hz29
   replace hb25_30 : Blk w27 b25 (lkc x23) 171 := (by rwa [over_whole (by rw [lkc_len]; rfl)] at hb25_30)
   have hsz31 := Keep.size hk28
   replace hA2 := hA2.keep hk28 (fun q hq hs => by have hs : q = b25 := hs; have g0 := ow2 q hq; have g1 := lt2 q hq; omega)
   replace hk11 := Keep.fr hk11 hk28
   refine Oe <| V_seq <| Vr <| Os 3 [(0, pt x),(1, nt a),(2, nt di),(3, nt n),(8, .slice A2 ys.length cap2),(9, .bool lb2),(10, nt (i : Int)),(11, pt b25),(47, .bool (!lb2))] ?_
   cases hg32 : (!lb2)
   ·
    refine OI_eq [(0, pt x),(1, nt a),(2, nt di),(3, nt n),(8, .slice A2 ys.length cap2),(9, .bool lb2),(10, nt (i : Int)),(11, pt b25),(47, .bool false)] (by first | rfl | rw [hg32]) <| Oen [0, 1, 2, 3, 8, 9, 10, 11, 48, 49, 50, 51, 52] <| Vf <| Vsk <| Vr <| On 1 [0, 1, 2, 3, 8, 9, 10, 11, 48, 49, 50, 51, 59] <| Lr 0 (nt x23.1) hb25_30 <| Oen [0, 1, 2, 3, 8, 9, 10, 11, 48, 49, 50, 51, 62] <| V_not (x23.1 = di) (by kernel_rfl) (fun hc33 => ?_) (fun hc33 => ?_)
    ·
     refine V_region <| On 1 [0, 1, 2, 3, 9, 10, 11, 48, 49, 50, 51, 63] <| La 0 (lkc x23) 2 hb25_30 (take_all (lkc_len _)) (lkc_len _) <| OI_slit (E := 171) (zv := .agg #[nt 0, nt 0]) (sz := 2) (by_ := 16) 136 1 #[(0, (Operand.tmp 64))] [.agg (lkc x23).toArray] (lkc x23) (some 65) (by kernel_rfl) (by kernel_rfl) (by kernel_rfl) (by omega) rfl (by omega) (by intro v hv; obtain rfl := List.mem_singleton.1 hv; show (lkc x23).toArray.size = 2; simp [lkc_len]) (by kernel_rfl) (by show (lkc x23).toArray.toList ++ [] = _; simp) ?_
     intro b34 w34 e34 hb34 k34 z34
     have hsz35 := Keep.size k34
     replace hA2 := hA2.keep0 k34
     replace hk11 := hk11.tn k34
     have hb34lt := hb34.lt
     have ow36 : ∀ q, inA A2 q → w.heap.size ≤ q ∧ q ≠ b25 := fun q hq => by have h1 := ow2 q hq; have h2 := lt2 q hq; omega
     refine OI_append (t := 136) (at2 := 136) (E := 171) (E2 := 171) (sz := 2) (by_ := 16) (zv := .agg #[nt 0, nt 0]) (m := ys.length) (k := 1) (.tmp 63) (.tmp 65) (.slice A2 ys.length cap2) (sl_ b34 0 1 1) (some 66) (by kernel_rfl) (by kernel_rfl) (by kernel_rfl) (by kernel_rfl) (by kernel_rfl) (by kernel_rfl) (by kernel_rfl) (SlT.slr hA2) (slr_one hb34 (lkc_len (x23))) (lkc_one (x23)) (by first | omega | (simp only [List.length_nil]; omega)) (by omega) (by first | omega | (simp only [List.length_nil]; omega)) (by omega) ?_
     intro vv9 w37 hap
     obtain ⟨A37, cap37, rfl, hA37, hk37, own37x⟩ := app_one (f := lkc) (xs := ys) (x := (x23)) (A := A2) (cap := cap2) hap (fun x _ => lkc_len x) (lkc_len _)
     have own37 : ∀ q, inA A37 q → w.heap.size ≤ q ∧ q ≠ b25 := fun q hq => by rcases own37x q hq with h | h; exact ow36 q h; (show w.heap.size ≤ q ∧ q ≠ b25; omega)
     have hsz38 := Keep.size hk37
     replace hk11 := Keep.fresh hk11 hk37 (by intro i hi hs; first | exact hs | (exfalso; have h1 := ow36 i hs; have h2 := lt2 i hs; omega) | (have h1 := ow36 i hs; have h2 := lt2 i hs; show _ ∨ _; omega))
     have lt37 := SlT.lt hA37
     have hyl36 : (ys ++ [(x23)]).length = (ys).length + 1 := List.length_append
     refine On 5 [0, 1, 2, 3, 8, 9, 10, 48, 49, 50, 51] <| OI_end rfl <| X_block <| X_then <| V_region ?_
     have hw39 : i64.wrap ((i : Int) + 1) = ((i + 1 : Nat) : Int) := wrp
     refine On 2 [0, 1, 2, 3, 8, 9, 33, 48, 49, 50, 51] <| Oq (u := nt (i64.wrap ((i : Int) + 1))) (v := nt ((i + 1 : Nat) : Int)) 33 (by rw [hw39]) <| Os 3 [(0, pt x),(1, nt a),(2, nt di),(3, nt n),(8, .slice A37 ((ys ++ [(x23)]).length) cap37),(9, .bool lb2),(10, nt ((i + 1 : Nat) : Int)),(48, undef),(49, undef),(50, undef),(51, undef)] <| OI_end rfl ?_
     exact V_again (k10 - 1) (by omega) [(0, pt x),(1, nt a),(2, nt di),(3, nt n),(8, .slice A37 ((ys ++ [(x23)]).length) cap37),(9, .bool lb2),(10, nt ((i + 1 : Nat) : Int))] rfl ⟨i + 1, lb2, A37, cap37, ys ++ [(x23)], by have h9 := (List.getElem?_eq_some_iff.1 hx24).1; rw [hls18] at h9; omega, (lkR_nn (by rw [← hls18]; exact hx24) (fun h => by rw [hg32] at h; cases h.1) hc33).symm.trans hlk, hA37, fun q h => (own37 q h).1, by omega, hk11, rfl⟩
    refine V_skip <| X_block <| X_then <| V_region ?_
    have hw40 : i64.wrap ((i : Int) + 1) = ((i + 1 : Nat) : Int) := wrp
    refine On 2 [0, 1, 2, 3, 8, 9, 33, 48, 49, 50, 51] <| Oq (u := nt (i64.wrap ((i : Int) + 1))) (v := nt ((i + 1 : Nat) : Int)) 33 (by rw [hw40]) <| Os 3 [(0, pt x),(1, nt a),(2, nt di),(3, nt n),(8, .slice A2 ys.length cap2),(9, .bool lb2),(10, nt ((i + 1 : Nat) : Int)),(48, undef),(49, undef),(50, undef),(51, undef)] <| OI_end rfl ?_
    exact V_again (k10 - 1) (by omega) [(0, pt x),(1, nt a),(2, nt di),(3, nt n),(8, .slice A2 ys.length cap2),(9, .bool lb2),(10, nt ((i + 1 : Nat) : Int))] rfl ⟨i + 1, lb2, A2, cap2, ys, by have h9 := (List.getElem?_eq_some_iff.1 hx24).1; rw [hls18] at h9; omega, (lkR_ne (by rw [← hls18]; exact hx24) (fun h => by rw [hg32] at h; cases h.1) hc33).symm.trans hlk, hA2, ow2, by omega, hk11, rfl⟩
   refine OI_eq [(0, pt x),(1, nt a),(2, nt di),(3, nt n),(8, .slice A2 ys.length cap2),(9, .bool lb2),(10, nt (i : Int)),(11, pt b25),(47, .bool true)] (by first | rfl | rw [hg32]) <| On 4 [0, 1, 2, 3, 8, 9, 10, 11, 47, 48] <| Lr 0 (nt x23.1) hb25_30 <| Oen [0, 1, 2, 3, 8, 9, 10, 11, 48, 49, 50, 51, 52] <| Vi (x23.1 ≥ di) (fun hc41 => ?_) (fun hc41 => ?_)
   ·
    refine Vr <| On 4 [0, 1, 2, 3, 10, 11, 48, 49, 50, 51, 53, 56] <| OI_slit (E := 171) (zv := .agg #[nt 0, nt 0]) (sz := 2) (by_ := 16) 136 1 #[(0, (Operand.tmp 56))] [.agg #[nt di, nt n]] [nt di, nt n] (some 57) (by kernel_rfl) (by kernel_rfl) (by kernel_rfl) (by omega) rfl (by omega) (by intro v hv; simp only [List.mem_cons, List.not_mem_nil, or_false] at hv; rcases hv with rfl <;> rfl) (by kernel_rfl) rfl ?_
    intro b42 w42 e42 hb42 k42 z42
    have hsz43 := Keep.size k42
    replace hb25_30 := hb25_30.k0 k42
    replace hA2 := hA2.keep0 k42
    replace hk11 := hk11.tn k42
    have hb42lt := hb42.lt
    have ow44 : ∀ q, inA A2 q → w.heap.size ≤ q ∧ q ≠ b25 := fun q hq => by have h1 := ow2 q hq; have h2 := lt2 q hq; omega
    refine OI_append (t := 136) (at2 := 136) (E := 171) (E2 := 171) (sz := 2) (by_ := 16) (zv := .agg #[nt 0, nt 0]) (m := ys.length) (k := 1) (.tmp 53) (.tmp 57) (.slice A2 ys.length cap2) (sl_ b42 0 1 1) (some 58) (by kernel_rfl) (by kernel_rfl) (by kernel_rfl) (by kernel_rfl) (by kernel_rfl) (by kernel_rfl) (by kernel_rfl) (SlT.slr hA2) (slr_one hb42 (lkc_len (di, n))) (lkc_one (di, n)) (by first | omega | (simp only [List.length_nil]; omega)) (by omega) (by first | omega | (simp only [List.length_nil]; omega)) (by omega) ?_
    intro vv9 w45 hap
    obtain ⟨A45, cap45, rfl, hA45, hk45, own45x⟩ := app_one (f := lkc) (xs := ys) (x := (di, n)) (A := A2) (cap := cap2) hap (fun x _ => lkc_len x) (lkc_len _)
    have own45 : ∀ q, inA A45 q → w.heap.size ≤ q ∧ q ≠ b25 := fun q hq => by rcases own45x q hq with h | h; exact ow44 q h; (show w.heap.size ≤ q ∧ q ≠ b25; omega)
    have hsz46 := Keep.size hk45
    replace hb25_30 := hb25_30.keep hk45 (fun hs => by have h1 := ow44 _ hs; have h2 := lt2 _ hs; omega)
    replace hk11 := Keep.fresh hk11 hk45 (by intro i hi hs; first | exact hs | (exfalso; have h1 := ow44 i hs; have h2 := lt2 i hs; omega) | (have h1 := ow44 i hs; have h2 := lt2 i hs; show _ ∨ _; omega))
    have lt45 := SlT.lt hA45
    have hyl44 : (ys ++ [(di, n)]).length = (ys).length + 1 := List.length_append
    refine On 7 [0, 1, 2, 3, 8, 10, 11, 48, 49, 50, 51] <| Oe <| V_region <| On 1 [0, 1, 2, 3, 8, 9, 10, 11, 48, 49, 50, 51] <| Oer <| On 1 [0, 1, 2, 3, 8, 9, 10, 11, 48, 49, 50, 51, 59] <| Lr 0 (nt x23.1) hb25_30 <| Oen [0, 1, 2, 3, 8, 9, 10, 11, 48, 49, 50, 51, 62] <| V_not (x23.1 = di) (by kernel_rfl) (fun hc47 => ?_) (fun hc47 => ?_)
    ·
     refine V_region <| On 1 [0, 1, 2, 3, 9, 10, 11, 48, 49, 50, 51, 63] <| La 0 (lkc x23) 2 hb25_30 (take_all (lkc_len _)) (lkc_len _) <| OI_slit (E := 171) (zv := .agg #[nt 0, nt 0]) (sz := 2) (by_ := 16) 136 1 #[(0, (Operand.tmp 64))] [.agg (lkc x23).toArray] (lkc x23) (some 65) (by kernel_rfl) (by kernel_rfl) (by kernel_rfl) (by omega) rfl (by omega) (by intro v hv; obtain rfl := List.mem_singleton.1 hv; show (lkc x23).toArray.size = 2; simp [lkc_len]) (by kernel_rfl) (by show (lkc x23).toArray.toList ++ [] = _; simp) ?_
     intro b48 w48 e48 hb48 k48 z48
     have hsz49 := Keep.size k48
     replace hA45 := hA45.keep0 k48
     replace hk11 := hk11.tn k48
     have hb48lt := hb48.lt
     have ow50 : ∀ q, inA A45 q → w.heap.size ≤ q ∧ q ≠ b25 := fun q hq => by have h1 := own45 q hq; have h2 := lt45 q hq; omega
     refine OI_append (t := 136) (at2 := 136) (E := 171) (E2 := 171) (sz := 2) (by_ := 16) (zv := .agg #[nt 0, nt 0]) (m := (ys ++ [(di, n)]).length) (k := 1) (.tmp 63) (.tmp 65) (.slice A45 ((ys ++ [(di, n)]).length) cap45) (sl_ b48 0 1 1) (some 66) (by kernel_rfl) (by kernel_rfl) (by kernel_rfl) (by kernel_rfl) (by kernel_rfl) (by kernel_rfl) (by kernel_rfl) (SlT.slr hA45) (slr_one hb48 (lkc_len (x23))) (lkc_one (x23)) (by first | omega | (simp only [List.length_nil]; omega)) (by omega) (by first | omega | (simp only [List.length_nil]; omega)) (by omega) ?_
     intro vv9 w51 hap
     obtain ⟨A51, cap51, rfl, hA51, hk51, own51x⟩ := app_one (f := lkc) (xs := (ys ++ [(di, n)])) (x := (x23)) (A := A45) (cap := cap45) hap (fun x _ => lkc_len x) (lkc_len _)
     have own51 : ∀ q, inA A51 q → w.heap.size ≤ q ∧ q ≠ b25 := fun q hq => by rcases own51x q hq with h | h; exact ow50 q h; (show w.heap.size ≤ q ∧ q ≠ b25; omega)
     have hsz52 := Keep.size hk51
     replace hk11 := Keep.fresh hk11 hk51 (by intro i hi hs; first | exact hs | (exfalso; have h1 := ow50 i hs; have h2 := lt45 i hs; omega) | (have h1 := ow50 i hs; have h2 := lt45 i hs; show _ ∨ _; omega))
     have lt51 := SlT.lt hA51
     have hyl50 : (ys ++ [(di, n)] ++ [(x23)]).length = (ys ++ [(di, n)]).length + 1 := List.length_append
     refine On 5 [0, 1, 2, 3, 8, 9, 10, 48, 49, 50, 51] <| OI_end rfl <| X_block <| X_then <| V_region ?_
     have hw53 : i64.wrap ((i : Int) + 1) = ((i + 1 : Nat) : Int) := wrp
     refine On 2 [0, 1, 2, 3, 8, 9, 33, 48, 49, 50, 51] <| Oq (u := nt (i64.wrap ((i : Int) + 1))) (v := nt ((i + 1 : Nat) : Int)) 33 (by rw [hw53]) <| Os 3 [(0, pt x),(1, nt a),(2, nt di),(3, nt n),(8, .slice A51 ((ys ++ [(di, n)] ++ [(x23)]).length) cap51),(9, .bool true),(10, nt ((i + 1 : Nat) : Int)),(48, pt b25),(49, nt x23.1),(50, nt di),(51, .bool (decide (x23.1 ≥ di)))] <| OI_end rfl ?_
     exact V_again (k10 - 1) (by omega) [(0, pt x),(1, nt a),(2, nt di),(3, nt n),(8, .slice A51 ((ys ++ [(di, n)] ++ [(x23)]).length) cap51),(9, .bool true),(10, nt ((i + 1 : Nat) : Int))] rfl ⟨i + 1, true, A51, cap51, ys ++ [(di, n)] ++ [(x23)], by have h9 := (List.getElem?_eq_some_iff.1 hx24).1; rw [hls18] at h9; omega, (lkR_yn (by rw [← hls18]; exact hx24) hg32 hc41 hc47).symm.trans hlk, hA51, fun q h => (own51 q h).1, by omega, hk11, rfl⟩
    refine V_skip <| X_block <| X_then <| V_region ?_
    have hw54 : i64.wrap ((i : Int) + 1) = ((i + 1 : Nat) : Int) := wrp
    refine On 2 [0, 1, 2, 3, 8, 9, 33, 48, 49, 50, 51] <| Oq (u := nt (i64.wrap ((i : Int) + 1))) (v := nt ((i + 1 : Nat) : Int)) 33 (by rw [hw54]) <| Os 3 [(0, pt x),(1, nt a),(2, nt di),(3, nt n),(8, .slice A45 ((ys ++ [(di, n)]).length) cap45),(9, .bool true),(10, nt ((i + 1 : Nat) : Int)),(48, pt b25),(49, nt x23.1),(50, nt di),(51, .bool (decide (x23.1 ≥ di)))] <| OI_end rfl ?_
    exact V_again (k10 - 1) (by omega) [(0, pt x),(1, nt a),(2, nt di),(3, nt n),(8, .slice A45 ((ys ++ [(di, n)]).length) cap45),(9, .bool true),(10, nt ((i + 1 : Nat) : Int))] rfl ⟨i + 1, true, A45, cap45, ys ++ [(di, n)], by have h9 := (List.getElem?_eq_some_iff.1 hx24).1; rw [hls18] at h9; omega, (lkR_ye (by rw [← hls18]; exact hx24) hg32 hc41 hc47).symm.trans hlk, hA45, fun q h => (own45 q h).1, by omega, hk11, rfl⟩
   refine Vsk <| Vr <| On 1 [0, 1, 2, 3, 8, 9, 10, 11, 48, 49, 50, 51, 59] <| Lr 0 (nt x23.1) hb25_30 <| Oen [0, 1, 2, 3, 8, 9, 10, 11, 48, 49, 50, 51, 62] <| V_not (x23.1 = di) (by kernel_rfl) (fun hc55 => ?_) (fun hc55 => ?_)
   ·
    refine V_region <| On 1 [0, 1, 2, 3, 9, 10, 11, 48, 49, 50, 51, 63] <| La 0 (lkc x23) 2 hb25_30 (take_all (lkc_len _)) (lkc_len _) <| OI_slit (E := 171) (zv := .agg #[nt 0, nt 0]) (sz := 2) (by_ := 16) 136 1 #[(0, (Operand.tmp 64))] [.agg (lkc x23).toArray] (lkc x23) (some 65) (by kernel_rfl) (by kernel_rfl) (by kernel_rfl) (by omega) rfl (by omega) (by intro v hv; obtain rfl := List.mem_singleton.1 hv; show (lkc x23).toArray.size = 2; simp [lkc_len]) (by kernel_rfl) (by show (lkc x23).toArray.toList ++ [] = _; simp) ?_
    intro b56 w56 e56 hb56 k56 z56
    have hsz57 := Keep.size k56
    replace hA2 := hA2.keep0 k56
    replace hk11 := hk11.tn k56
    have hb56lt := hb56.lt
    have ow58 : ∀ q, inA A2 q → w.heap.size ≤ q ∧ q ≠ b25 := fun q hq => by have h1 := ow2 q hq; have h2 := lt2 q hq; omega
    refine OI_append (t := 136) (at2 := 136) (E := 171) (E2 := 171) (sz := 2) (by_ := 16) (zv := .agg #[nt 0, nt 0]) (m := ys.length) (k := 1) (.tmp 63) (.tmp 65) (.slice A2 ys.length cap2) (sl_ b56 0 1 1) (some 66) (by kernel_rfl) (by kernel_rfl) (by kernel_rfl) (by kernel_rfl) (by kernel_rfl) (by kernel_rfl) (by kernel_rfl) (SlT.slr hA2) (slr_one hb56 (lkc_len (x23))) (lkc_one (x23)) (by first | omega | (simp only [List.length_nil]; omega)) (by omega) (by first | omega | (simp only [List.length_nil]; omega)) (by omega) ?_
    intro vv9 w59 hap
    obtain ⟨A59, cap59, rfl, hA59, hk59, own59x⟩ := app_one (f := lkc) (xs := ys) (x := (x23)) (A := A2) (cap := cap2) hap (fun x _ => lkc_len x) (lkc_len _)
    have own59 : ∀ q, inA A59 q → w.heap.size ≤ q ∧ q ≠ b25 := fun q hq => by rcases own59x q hq with h | h; exact ow58 q h; (show w.heap.size ≤ q ∧ q ≠ b25; omega)
    have hsz60 := Keep.size hk59
    replace hk11 := Keep.fresh hk11 hk59 (by intro i hi hs; first | exact hs | (exfalso; have h1 := ow58 i hs; have h2 := lt2 i hs; omega) | (have h1 := ow58 i hs; have h2 := lt2 i hs; show _ ∨ _; omega))
    have lt59 := SlT.lt hA59
    have hyl58 : (ys ++ [(x23)]).length = (ys).length + 1 := List.length_append
    refine On 5 [0, 1, 2, 3, 8, 9, 10, 48, 49, 50, 51] <| OI_end rfl <| X_block <| X_then <| V_region ?_
    have hw61 : i64.wrap ((i : Int) + 1) = ((i + 1 : Nat) : Int) := wrp
    refine On 2 [0, 1, 2, 3, 8, 9, 33, 48, 49, 50, 51] <| Oq (u := nt (i64.wrap ((i : Int) + 1))) (v := nt ((i + 1 : Nat) : Int)) 33 (by rw [hw61]) <| Os 3 [(0, pt x),(1, nt a),(2, nt di),(3, nt n),(8, .slice A59 ((ys ++ [(x23)]).length) cap59),(9, .bool lb2),(10, nt ((i + 1 : Nat) : Int)),(48, pt b25),(49, nt x23.1),(50, nt di),(51, .bool (decide (x23.1 ≥ di)))] <| OI_end rfl ?_
    exact V_again (k10 - 1) (by omega) [(0, pt x),(1, nt a),(2, nt di),(3, nt n),(8, .slice A59 ((ys ++ [(x23)]).length) cap59),(9, .bool lb2),(10, nt ((i + 1 : Nat) : Int))] rfl ⟨i + 1, lb2, A59, cap59, ys ++ [(x23)], by have h9 := (List.getElem?_eq_some_iff.1 hx24).1; rw [hls18] at h9; omega, (lkR_nn (by rw [← hls18]; exact hx24) (fun h => hc41 h.2) hc55).symm.trans hlk, hA59, fun q h => (own59 q h).1, by omega, hk11, rfl⟩
   refine V_skip <| X_block <| X_then <| V_region ?_
   have hw62 : i64.wrap ((i : Int) + 1) = ((i + 1 : Nat) : Int) := wrp
   refine On 2 [0, 1, 2, 3, 8, 9, 33, 48, 49, 50, 51] <| Oq (u := nt (i64.wrap ((i : Int) + 1))) (v := nt ((i + 1 : Nat) : Int)) 33 (by rw [hw62]) <| Os 3 [(0, pt x),(1, nt a),(2, nt di),(3, nt n),(8, .slice A2 ys.length cap2),(9, .bool lb2),(10, nt ((i + 1 : Nat) : Int)),(48, pt b25),(49, nt x23.1),(50, nt di),(51, .bool (decide (x23.1 ≥ di)))] <| OI_end rfl ?_
   exact V_again (k10 - 1) (by omega) [(0, pt x),(1, nt a),(2, nt di),(3, nt n),(8, .slice A2 ys.length cap2),(9, .bool lb2),(10, nt ((i + 1 : Nat) : Int))] rfl ⟨i + 1, lb2, A2, cap2, ys, by have h9 := (List.getElem?_eq_some_iff.1 hx24).1; rw [hls18] at h9; omega, (lkR_ne (by rw [← hls18]; exact hx24) (fun h => hc41 h.2) hc55).symm.trans hlk, hA2, ow2, by omega, hk11, rfl⟩
  refine V_exit <| X_exit_then <| X_exit_then <| X_exit_here <| X_then <| V_seq <| Vn [0, 1, 2, 3, 8, 68] <| Vb (!lb2) (fun hc63 => ?_) (fun hc63 => ?_)
  ·
   refine V_region <| On 4 [0, 1, 69, 72] <| OI_slit (E := 171) (zv := .agg #[nt 0, nt 0]) (sz := 2) (by_ := 16) 136 1 #[(0, (Operand.tmp 72))] [.agg #[nt di, nt n]] [nt di, nt n] (some 73) (by kernel_rfl) (by kernel_rfl) (by kernel_rfl) (by omega) rfl (by omega) (by intro v hv; simp only [List.mem_cons, List.not_mem_nil, or_false] at hv; rcases hv with rfl <;> rfl) (by kernel_rfl) rfl ?_
   intro b64 w64 e64 hb64 k64 z64
   have hsz65 := Keep.size k64
   replace hx := hx.k0 k64
   replace hat13 := hat13.keep k64 id
   replace hA2 := hA2.keep0 k64
   replace hK0 := hK0.tn k64
   replace hall := DAll.keep hall k64 (fun _ _ _ _ f => f)
   have hb64lt := hb64.lt
   have ow66 : ∀ q, inA A2 q → w.heap.size ≤ q := fun q hq => by have h1 := ow2 q hq; have h2 := lt2 q hq; omega
   refine OI_append (t := 136) (at2 := 136) (E := 171) (E2 := 171) (sz := 2) (by_ := 16) (zv := .agg #[nt 0, nt 0]) (m := ys.length) (k := 1) (.tmp 69) (.tmp 73) (.slice A2 ys.length cap2) (sl_ b64 0 1 1) (some 74) (by kernel_rfl) (by kernel_rfl) (by kernel_rfl) (by kernel_rfl) (by kernel_rfl) (by kernel_rfl) (by kernel_rfl) (SlT.slr hA2) (slr_one hb64 (lkc_len (di, n))) (lkc_one (di, n)) (by first | omega | (simp only [List.length_nil]; omega)) (by omega) (by first | omega | (simp only [List.length_nil]; omega)) (by omega) ?_
   intro vv9 w67 hap
   obtain ⟨A67, cap67, rfl, hA67, hk67, own67x⟩ := app_one (f := lkc) (xs := ys) (x := (di, n)) (A := A2) (cap := cap2) hap (fun x _ => lkc_len x) (lkc_len _)
   have own67 : ∀ q, inA A67 q → w.heap.size ≤ q := fun q hq => by rcases own67x q hq with h | h; exact ow66 q h; (show w.heap.size ≤ q; omega)
   have hsz68 := Keep.size hk67
   replace hx := hx.keep hk67 (fun hs => by have h1 := ow66 _ hs; have h2 := lt2 _ hs; omega)
   replace hat13 := hat13.keep hk67 (fun hs => by have h1 := ow66 _ hs; have h2 := lt2 _ hs; omega)
   replace hK0 := Keep.fresh hK0 hk67 (by intro i hi hs; first | exact hs | (exfalso; have h1 := ow66 i hs; have h2 := lt2 i hs; omega) | (have h1 := ow66 i hs; have h2 := lt2 i hs; show _ ∨ _; omega))
   replace hall := DAll.keep hall hk67 (fun q h1 _ _ hs => by have h4 := hFlt q h1; have h1 := ow66 q hs; have h2 := lt2 q hs; omega)
   have lt67 := SlT.lt hA67
   have hyl66 : (ys ++ [(di, n)]).length = (ys).length + 1 := List.length_append
   refine On 7 [0, 1, 8] <| Oe <| V_region <| On 3 [1, 8, 77] <| Lr 0 (sl_ b13 o13 ds.length cap) hx <| On 6 [78, 79, 80] <| Op_ [(78, sl_ b13 o13 ds.length cap),(79, nt a),(80, .slice A67 ((ys ++ [(di, n)]).length) cap67)] <| Oq (u := nt a) (v := nt (j5 : Int)) 79 (by rw [hj5]) <| Oi (b := b13) (o := o13) (len := ds.length) (cap := cap) (j := j5) (some 81) 133 (.tmp 78) (.tmp 79) 138 3 40 .i64 <| Os 8 [(80, .slice A67 ((ys ++ [(di, n)]).length) cap67),(82, .pointer (some ⟨b13, o13 + j5 * 3 + 2, none⟩))] <| Ts1 (DE.mk f18 g18 A67 cap67 (ys ++ [(di, n)]) : DE) 2 (.slice A67 ((ys ++ [(di, n)]).length) cap67) hat13 hx17 (by simp [DE.cells, over]) ?_
   intro w69 hat73 hk71 hz72 hlhx74 hx74
   have hsz75 := Keep.size hk71
   replace hx := hx.k1 hk71
   replace hA67 := hA67.keep hk71 (fun q hq hs => by have hs : q = b13 := hs; have g0 := own67 q hq; have g1 := lt67 q hq; omega)
   replace hK0 := Keep.fresh hK0 hk71 (by intro i hi hs; have hs2 : i = b13 := hs; first | (exfalso; omega) | (rw [hs2]; exact (hdx.own _ ⟨_, rfl, rfl⟩).1))
   replace hall := DAll.keep hall hk71 (fun q h1 h2 h3 hs => by have hs : q = b13 := hs; exact h3 (hs ▸ ⟨_, rfl, rfl⟩))
   replace hacc := (map_set (j := j5) hacc f18 g18 A67 cap67 (ys ++ [(di, n)])).trans (set_same (de_at hacc hx17))
   refine OI_end rfl ?_
   have hie : i = (rowL (j5 : Int) cs).length := by omega
   rw [hie, List.drop_length] at hlk
   have hys : (ys ++ [(di, n)]) = rowL (j5 : Int) (lockC cs a di n) := by rw [← hj5, lock_row hcl.2.1 hsa, ← hlb, hj5, ← hlk]; cases lb2 <;> simp_all [lkR]
   have hoth : ∀ i : Nat, i ≠ j5 → rowL (i : Int) (lockC cs a di n) = rowL (i : Int) cs := fun i hi => lock_other (by omega) di n
   have hall9 := DAll.lock (F' := more F w w69) hall hx17 hys hoth hA67 (fun q hq => by have h1 := own67 q hq; have h2 := SlT.lt hA67 q hq; exact ⟨.inr ⟨by omega, h2⟩, by omega, fun h3 => by have h5 := hFlt q (hdx.own q h3).1; omega⟩) (fun q h => .inl h)
   exact X_end _ rfl ⟨rfl, ⟨more F w w69, ⟨hinv, okC_lock hcl hmax a di n, .inl hFx, (fun q hq => by rcases hq with hq | hq; (have h9 := hFlt q hq; omega); exact hq.2), _, _, _, ⟨by simp only [List.length_set]; exact hx, At.slt hat73, fun q hq => ⟨.inl (hdx.own q hq).1, (hdx.own q hq).2⟩, hacc, hall9⟩⟩, fun q hq => hq.imp id (·.1)⟩, hK0⟩
  refine Vsk <| V_region <| On 3 [1, 8, 77] <| Lr 0 (sl_ b13 o13 ds.length cap) hx <| On 6 [78, 79, 80] <| Op_ [(78, sl_ b13 o13 ds.length cap),(79, nt a),(80, .slice A2 ys.length cap2)] <| Oq (u := nt a) (v := nt (j5 : Int)) 79 (by rw [hj5]) <| Oi (b := b13) (o := o13) (len := ds.length) (cap := cap) (j := j5) (some 81) 133 (.tmp 78) (.tmp 79) 138 3 40 .i64 <| Os 8 [(80, .slice A2 ys.length cap2),(82, .pointer (some ⟨b13, o13 + j5 * 3 + 2, none⟩))] <| Ts1 (DE.mk f18 g18 A2 cap2 ys : DE) 2 (.slice A2 ys.length cap2) hat13 hx17 (by simp [DE.cells, over]) ?_
  intro w76 hat80 hk78 hz79 hlhx81 hx81
  have hsz82 := Keep.size hk78
  replace hx := hx.k1 hk78
  replace hA2 := hA2.keep hk78 (fun q hq hs => by have hs : q = b13 := hs; have g0 := ow2 q hq; have g1 := lt2 q hq; omega)
  replace hK0 := Keep.fresh hK0 hk78 (by intro i hi hs; have hs2 : i = b13 := hs; first | (exfalso; omega) | (rw [hs2]; exact (hdx.own _ ⟨_, rfl, rfl⟩).1))
  replace hall := DAll.keep hall hk78 (fun q h1 h2 h3 hs => by have hs : q = b13 := hs; exact h3 (hs ▸ ⟨_, rfl, rfl⟩))
  replace hacc := (map_set (j := j5) hacc f18 g18 A2 cap2 ys).trans (set_same (de_at hacc hx17))
  refine OI_end rfl ?_
  have hie : i = (rowL (j5 : Int) cs).length := by omega
  rw [hie, List.drop_length] at hlk
  have hys : ys = rowL (j5 : Int) (lockC cs a di n) := by rw [← hj5, lock_row hcl.2.1 hsa, ← hlb, hj5, ← hlk]; cases lb2 <;> simp_all [lkR]
  have hoth : ∀ i : Nat, i ≠ j5 → rowL (i : Int) (lockC cs a di n) = rowL (i : Int) cs := fun i hi => lock_other (by omega) di n
  have hall9 := DAll.lock (F' := more F w w76) hall hx17 hys hoth hA2 (fun q hq => by have h1 := ow2 q hq; have h2 := SlT.lt hA2 q hq; exact ⟨.inr ⟨by omega, h2⟩, by omega, fun h3 => by have h5 := hFlt q (hdx.own q h3).1; omega⟩) (fun q h => .inl h)
  exact X_end _ rfl ⟨rfl, ⟨more F w w76, ⟨hinv, okC_lock hcl hmax a di n, .inl hFx, (fun q hq => by rcases hq with hq | hq; (have h9 := hFlt q hq; omega); exact hq.2), _, _, _, ⟨by simp only [List.length_set]; exact hx, At.slt hat80, fun q hq => ⟨.inl (hdx.own q hq).1, (hdx.own q hq).2⟩, hacc, hall9⟩⟩, fun q hq => hq.imp id (·.1)⟩, hK0⟩
end Go.Al
namespace Go.Al
open Go Go.RowKit Go.Proofs
variable {i : Nat}
structure Vt where
  kind : Int
  aye : Bool
  level : Int
  a : Int
  n : Int
  s : Int
  deriving DecidableEq
def Vt.cells (x : Vt) : List Value := [nt x.kind, .bool x.aye, nt x.level, nt x.a, nt x.n, nt x.s]
theorem Vt.len (x : Vt) : x.cells.length = 6 := rfl
theorem Vt.one (x : Vt) : ∀ u ∈ x.cells, u.oneCell' = true := one_all' rfl
def Vt.zero : Vt := ⟨0, false, 0, 0, 0, 0⟩
structure Wgt where
  v : Int
  c : Int
  deriving DecidableEq
def Wgt.cells (x : Wgt) : List Value := [nt x.v, nt x.c]
theorem Wgt.len (x : Wgt) : x.cells.length = 2 := rfl
theorem Wgt.one (x : Wgt) : ∀ u ∈ x.cells, u.oneCell' = true := one_all' rfl
structure Tly where
  a : Int
  n : Int
  s : Int
  deriving DecidableEq
def Tly.cells (x : Tly) : List Value := [nt x.a, nt x.n, nt x.s]
theorem Tly.len (x : Tly) : x.cells.length = 3 := rfl
theorem Tly.one (x : Tly) : ∀ u ∈ x.cells, u.oneCell' = true := one_all' rfl
def Tly.zero : Tly := ⟨0, 0, 0⟩
abbrev w64 (x : Int) : Int := i64.wrap x
def sumL : List Int → Int
  | [] => 0
  | x :: l => x + sumL l
def okC (xs : List Int) : Prop := ∀ x ∈ xs, 0 ≤ x ∧ x ≤ 1073741824
instance (xs : List Int) : Decidable (okC xs) := by unfold okC; infer_instance
theorem sumL_step {xs : List Int} {x : Int} (h : xs[i]? = some x) : sumL (xs.take (i + 1)) = sumL (xs.take i) + x := by
  obtain ⟨h1, rfl⟩ := List.getElem?_eq_some_iff.1 h
  have happ : ∀ (a b : List Int), sumL (a ++ b) = sumL a + sumL b := by
    intro a b
    induction a with
    | nil => simp [sumL]
    | cons y l ih => simp only [List.cons_append, sumL, ih]; omega
  rw [List.take_succ_eq_append_getElem h1, happ]; simp [sumL]
theorem okC_step {xs : List Int} {x : Int} (h : xs[i]? = some x) (h1 : okC (xs.take i)) (h2 : 0 ≤ x ∧ x ≤ 1073741824) : okC (xs.take (i + 1)) := by
  obtain ⟨h3, rfl⟩ := List.getElem?_eq_some_iff.1 h
  intro y hy
  rw [List.take_succ_eq_append_getElem h3] at hy
  rcases List.mem_append.1 hy with hy | hy
  · exact h1 y hy
  · rw [List.mem_singleton.1 hy]; exact h2
theorem sumL_bnd : ∀ {xs : List Int}, okC xs → 0 ≤ sumL xs ∧ sumL xs ≤ xs.length * 1073741824
  | [], _ => by simp [sumL]
  | x :: l, h => by
    have h1 := h x (List.mem_cons_self ..)
    have h2 := sumL_bnd (xs := l) (fun y hy => h y (List.mem_cons_of_mem _ hy))
    simp only [sumL, List.length_cons]; omega
def okV (x : Vt) : Prop := (0 ≤ x.a ∧ x.a ≤ 1073741824 ∧ 0 ≤ x.n ∧ x.n ≤ 1073741824 ∧ 0 ≤ x.s ∧ x.s ≤ 1073741824 ∧ x.a + x.n + x.s ≤ 1073741824) ∧
  ((x.kind = 1 ∧ 0 ≤ x.level ∧ x.level ≤ 6 ∧ x.n = 0 ∧ x.s = 0) ∨ (x.kind = 2 ∧ x.aye = false ∧ x.level = 0 ∧ x.s = 0) ∨ (x.kind = 3 ∧ x.aye = false ∧ x.level = 0))
instance (x : Vt) : Decidable (okV x) := by unfold okV; infer_instance
theorem okC3 (a n s : Int) : (okC [a, n, s] ∧ sumL [a, n, s] ≤ 1073741824) ↔ (0 ≤ a ∧ a ≤ 1073741824 ∧ 0 ≤ n ∧ n ≤ 1073741824 ∧ 0 ≤ s ∧ s ≤ 1073741824 ∧ a + n + s ≤ 1073741824) := by
  simp only [okC, sumL, List.mem_cons, List.not_mem_nil, or_false, forall_eq_or_imp, forall_eq]; omega
def capI (x : Vt) : Int := w64 (w64 (x.a + x.n) + x.s)
def cvVotes (n level : Int) : Int := if level = 0 then w64 (Int.tdiv n 10) else w64 (n * level)
def cvPeriod (level p : Int) : Int := if level = 0 then 0 else w64 (p * 2 ^ (level - 1).toNat)
def gainT (x : Vt) (w : Wgt) : Tly :=
  if x.kind = 1 then (if x.aye = true then ⟨w64 (cvVotes x.a x.level + w.v), 0, w64 (x.a + w.c)⟩ else ⟨0, w64 (cvVotes x.a x.level + w.v), 0⟩)
  else ⟨cvVotes x.a 0, cvVotes x.n 0, w64 (x.a + x.s)⟩
def addT (t g : Tly) : Tly := ⟨w64 (t.a + g.a), w64 (t.n + g.n), w64 (t.s + g.s)⟩
def addL (t : Tly) : List Tly → Tly
  | [] => t
  | g :: l => addL (addT t g) l
theorem addL_app : ∀ (l : List Tly) (t g : Tly), addL t (l ++ [g]) = addT (addL t l) g
  | [], t, g => rfl
  | x :: l, t, g => by simp only [List.cons_append, addL]; exact addL_app l _ _
theorem addL_step {l : List Tly} {t g : Tly} (h : l[i]? = some g) : addL t (l.take (i + 1)) = addT (addL t (l.take i)) g := by
  obtain ⟨h1, rfl⟩ := List.getElem?_eq_some_iff.1 h
  rw [List.take_succ_eq_append_getElem h1, addL_app]
def negT (g : Tly) : Tly := ⟨w64 (0 - g.a), w64 (0 - g.n), w64 (0 - g.s)⟩
def subT (t g : Tly) : Tly := addT t (negT g)
end Go.Al
namespace Go.Al.GV
open Go Go.RowKit Go.Proofs
structure Ci where
  a : Int
  b : Int
  v : Vt
def Ci.cells (c : Ci) : List Value := [nt c.a, nt c.b, nt (c.v).kind, .bool (c.v).aye, nt (c.v).level, nt (c.v).a, nt (c.v).n, nt (c.v).s]
theorem Ci.len (c : Ci) : c.cells.length = 8 := rfl
theorem Ci.one (c : Ci) : ∀ u ∈ c.cells, u.oneCell' = true := one_all' rfl
def ordC (a b : Int) (c : Ci) : Int := orI [cmpI c.a a, cmpI c.b b]
theorem place1_spec (c : Ci) (a b : Int) (w : World) : Calls Tryz.prog 117 #[.agg c.cells.toArray, .agg #[nt a, nt b]] w fun e w' => e = .returned (nt (ordC a b c)) ∧ Keep none_ w w' := by
 have hK0 := Keep.refl none_ w
 refine eV ?_
 refine Vr <| OI_box 149 (.tmp 0) (.agg (Ci.cells c).toArray) (Ci.cells c) (some 2) (by kernel_rfl) (by kernel_rfl) rfl ?_
 intro b1 w1 e1 hb1 k1 z1
 have hsz2 := Keep.size k1
 replace hK0 := hK0.tn k1
 have hb1lt := hb1.lt
 refine Bx 147 [nt a, nt b] ?_
 intro b3 w3 e3 hb3 k3 z3
 have hsz4 := Keep.size k3
 replace hK0 := hK0.tn k3
 have hb3lt := hb3.lt
 refine Oen [2, 3] <| V_seq <| Vd1 (acts [5, 11, 12, 13]) none_ [0, 1, 2, 3, 4, 5, 6, 7, 8, 9, 10, 11, 12, 13, 14] fun w6 hk5 he7 K10 _ => ?_
 replace hb1 := hb1.k0 (k3.tr hk5)
 replace hb3 := hb3.k0 hk5
 replace hK0 := hK0.tn hk5
 have qhb1 := hb1
 have qhb3 := hb3
 refine Gn [2, 3, 4, 5, 6, 7, 8, 9, 10, 11, 12, 13, 14] [2, 3, 6] <| Mr 0 (nt c.a) qhb1 <| Gn [4, 5, 6, 7, 8, 9, 10, 11, 12, 13, 14] [2, 3, 7, 8] <| Mr 0 (nt a) qhb3 <| Hq K10 (compare_spec c.a a _) <| Gn [8, 9, 10, 11, 12, 13, 14] [3, 10, 12] <| Mr 1 (nt c.b) qhb1 <| Gn [10, 11, 12, 13, 14] [10, 13, 14] <| Mr 1 (nt b) qhb3 <| Jq (compare_spec c.b b _) <| GI_slit (E := 3) (zv := nt 0) (sz := 1) (by_ := 8) 28 2 #[(0, (Operand.tmp 10)),(1, (Operand.tmp 16))] [nt (cmpI c.a a), nt (cmpI c.b b)] [nt (cmpI c.a a), nt (cmpI c.b b)] (some 17) (by kernel_rfl) (by kernel_rfl) K10 (by kernel_rfl) (by kernel_rfl) (by omega) rfl (by omega) (by intro v hv; simp only [List.mem_cons, List.not_mem_nil, or_false] at hv; rcases hv with rfl | rfl <;> rfl) (by kernel_rfl) rfl ?_
 intro b13 w13 e13 hb13 k13 z13 K14
 have hsz15 := Keep.size k13
 replace hK0 := hK0.tn k13
 have hb13lt := hb13.lt
 refine Gk0 (kl 118 #[(.tmp 17)] #[28]) 118 #[sl_ b13 0 2 2] (some 18) (or_spec _ 2 [cmpI c.a a, cmpI c.b b] _ (slt_blk hb13 (fun _ => rfl) rfl) (by simp)) ?_
 rintro _ w13 ⟨rfl, rfl⟩
 refine ⟨_, rfl, ?_⟩
 exact Gn [] [4] <| GI_end <| X_then <| Rr (nt (orI [cmpI c.a a, cmpI c.b b])) ⟨rfl, hK0⟩
theorem bsearch_spec (A : Option Addr) (cap F : Nat) (xs : List Ci) (kl : List Value) (ord : Ci → Int) (w : World) (hA : SlT w 8 Ci.cells A cap xs) (hkl : kl.length = 2) (hn : xs.length ≤ 1000000) (hb : bodied Tryz.prog F = true)
    (hF : ∀ x w, Calls Tryz.prog F #[.agg (Ci.cells x).toArray, .agg kl.toArray] w fun e w' => e = .returned (nt (ord x)) ∧ Keep none_ w w') (hm : ∀ (i j : Nat) x y, i ≤ j → xs[i]? = some x → xs[j]? = some y → ord y < 0 → ord x < 0) :
    Calls Tryz.prog 116 #[.slice A xs.length cap, .agg kl.toArray, .func (.func F) #[] #[]] w fun e w' => ∃ (i : Nat) (b : Bool), e = .returned (.tuple #[nt (i : Int), .bool b]) ∧ Keep none_ w w' ∧ i ≤ xs.length ∧ (∀ (j : Nat) y, j < i → xs[j]? = some y → ord y < 0) ∧ (∀ (j : Nat) y, i ≤ j → xs[j]? = some y → ¬ ord y < 0) ∧ b = (match xs[i]? with | some y => decide (ord y = 0) | none => false) := by
 have hK0 := Keep.refl none_ w
 refine eV ?_
 refine Vr <| OI_box 147 (.tmp 1) (.agg kl.toArray) kl (some 4) (by kernel_rfl) (by kernel_rfl) rfl ?_
 intro b1 w1 e1 hb1 k1 z1
 have hsz2 := Keep.size k1
 replace hK0 := hK0.tn k1
 have hb1lt := hb1.lt
 refine On 3 [0, 2, 4] <| Oer <| On 3 [0, 2, 4, 8] <| Oer <| Oen [0, 2, 4, 8, 9, 10] <| V_seq <| V_block <| Vp [(0, .slice A xs.length cap),(2, .func (.func F) #[] #[]),(4, pt b1),(8, nt (xs.length : Int)),(9, nt 0),(10, nt (xs.length : Int))] <| V_loop (fun k wI e => ∃ lo : Nat, ∃ hi : Nat, (k + lo = hi) ∧ (lo ≤ hi) ∧ (hi ≤ xs.length) ∧ (∀ (j : Nat) y, j < lo → xs[j]? = some y → ord y < 0) ∧ (∀ (j : Nat) y, hi ≤ j → xs[j]? = some y → ¬ ord y < 0) ∧ Keep none_ w1 wI ∧ e = [(0, .slice A xs.length cap),(2, .func (.func F) #[] #[]),(4, pt b1),(8, nt (xs.length : Int)),(9, nt (lo : Int)),(10, nt (hi : Int))]) xs.length ⟨0, xs.length, rfl, Nat.zero_le _, Nat.le_refl _, (fun j y hj => absurd hj (Nat.not_lt_zero _)),(fun j y hj hy => absurd (List.getElem?_eq_some_iff.1 hy).1 (by omega)), Keep.refl _ _, rfl⟩ ?_
 rintro k4 w3 _ ⟨lo, hi, hk2, hlo, hhi, hbef, haft, hk5, rfl⟩
 have hsz6 := Keep.size hk5
 replace hb1 := hb1.k0 hk5
 replace hA := hA.keep0 (k1.tr hk5)
 replace hK0 := hK0.tn hk5
 have hzhk5 := Keep.size hk5
 refine V_seq <| Vn [0, 2, 4, 8, 9, 10, 17] <| Vi ((lo : Int) < (hi : Int)) (fun hc7 => ?_) (fun hc7 => ?_)
 ·
  refine Vsk <| V_block <| Vr ?_
  have hw8 : i64.wrap ((lo : Int) + (hi : Int)) = ((lo + hi : Nat) : Int) := wrp
  refine On 3 [0, 2, 4, 8, 9, 10, 20] <| Oq (u := nt (i64.wrap ((lo : Int) + (hi : Int)))) (v := nt ((lo + hi : Nat) : Int)) 20 (by rw [hw8]) ?_
  have hw9 : IntKind.u64.wrap ((lo + hi : Nat) : Int) = ((lo + hi : Nat) : Int) := wrap_u64 (by omega)
  refine On 4 [0, 2, 4, 8, 9, 10, 21] <| Oq (u := .int .u64 (IntKind.u64.wrap ((lo + hi : Nat) : Int))) (v := .int .u64 ((lo + hi : Nat) : Int)) 21 (by rw [hw9]) ?_
  have hw10 : Int.fdiv ((lo + hi : Nat) : Int) (2 ^ 1) = (((lo + hi) / 2 : Nat) : Int) := shr1 _
  refine On 5 [0, 2, 4, 8, 9, 10, 22] <| Oq (u := .int .u64 (Int.fdiv ((lo + hi : Nat) : Int) (2 ^ 1))) (v := .int .u64 (((lo + hi) / 2 : Nat) : Int)) 22 (by rw [hw10]) ?_
  have hw11 : i64.wrap (((lo + hi) / 2 : Nat) : Int) = (((lo + hi) / 2 : Nat) : Int) := wrap64_id (by omega) (by omega)
  refine On 6 [0, 2, 4, 8, 9, 10, 23] <| Oq (u := nt (i64.wrap (((lo + hi) / 2 : Nat) : Int))) (v := nt (((lo + hi) / 2 : Nat) : Int)) 23 (by rw [hw11]) <| Oen [0, 2, 4, 8, 9, 10, 11] <| V_seq <| Vd1 (acts [6]) none_ [0, 1, 2, 3, 4, 5, 6, 7] fun w13 hk12 he14 K17 _ => ?_
  replace hb1 := hb1.k0 hk12
  replace hA := hA.keep0 hk12
  replace hk5 := hk5.tn hk12
  have qhb1 := hb1
  refine Gn [3, 4, 5, 6, 7] [0, 2, 4, 8, 9, 10, 11, 24, 25, 26] ?_
  obtain ⟨b18, o18, L18, T18, rfl, hat18⟩ := SlT.opn hA
  have hb18lt := hat18.blk.lt
  refine Gi (b := b18) (o := o18) (len := xs.length) (cap := cap) (j := (lo + hi) / 2) 149 8 64 .i64 ?_
  obtain ⟨x19, hx20⟩ := exAt (xs := xs) (i := (lo + hi) / 2)
  refine Ma (o18 + ((lo + hi) / 2) * 8) (Ci.cells x19) 8 hat18.blk id (At.elem' hat18 (es_at hx20)) (At.len hat18 (es_at hx20)) <| Ma 0 kl 2 qhb1 id (take_all hkl) hkl <| GI_call0 { callee := (Callee.value (Operand.tmp 24)), args := #[(Operand.tmp 28),(Operand.tmp 29)], argTypes := #[149, 147] } F #[.agg (Ci.cells x19).toArray, .agg kl.toArray] (some 30) (by kernel_rfl) (by kernel_rfl) (by kernel_rfl) (by kernel_rfl) hb (hF x19 _) ?_
  rintro _ w21 ⟨rfl, hk22⟩
  refine ⟨_, rfl, ?_⟩
  have hsz23 := Keep.size hk22
  replace hk5 := hk5.tn hk22
  refine Gn [] [0, 2, 4, 8, 9, 10, 11, 31] <| GI_end <| X_then <| Vi (ord x19 < 0) (fun hc24 => ?_) (fun hc24 => ?_)
  ·
   refine V_region ?_
   have hw25 : i64.wrap ((((lo + hi) / 2 : Nat) : Int) + 1) = (((lo + hi) / 2 + 1 : Nat) : Int) := wrp
   refine On 2 [0, 2, 4, 8, 10, 33] <| Oq (u := nt (i64.wrap ((((lo + hi) / 2 : Nat) : Int) + 1))) (v := nt (((lo + hi) / 2 + 1 : Nat) : Int)) 33 (by rw [hw25]) <| Os 3 [(0, sl_ b18 o18 xs.length cap),(2, .func (.func F) #[] #[]),(4, pt b1),(8, nt (xs.length : Int)),(9, nt (((lo + hi) / 2 + 1 : Nat) : Int)),(10, nt (hi : Int))] <| OI_end rfl <| X_block ?_
   exact V_again (hi - ((lo + hi) / 2 + 1)) (by omega) [(0, sl_ b18 o18 xs.length cap),(2, .func (.func F) #[] #[]),(4, pt b1),(8, nt (xs.length : Int)),(9, nt (((lo + hi) / 2 + 1 : Nat) : Int)),(10, nt (hi : Int))] rfl ⟨(lo + hi) / 2 + 1, hi, by omega, by omega, by omega, fun j y hj hy => hm j ((lo + hi) / 2) y x19 (by omega) hy hx20 hc24, haft, hk5, rfl⟩
  refine V_region <| Os 2 [(0, sl_ b18 o18 xs.length cap),(2, .func (.func F) #[] #[]),(4, pt b1),(8, nt (xs.length : Int)),(9, nt (lo : Int)),(10, nt (((lo + hi) / 2 : Nat) : Int))] <| OI_end rfl <| X_block ?_
  exact V_again ((lo + hi) / 2 - lo) (by omega) [(0, sl_ b18 o18 xs.length cap),(2, .func (.func F) #[] #[]),(4, pt b1),(8, nt (xs.length : Int)),(9, nt (lo : Int)),(10, nt (((lo + hi) / 2 : Nat) : Int))] rfl ⟨lo, (lo + hi) / 2, by omega, by omega, by omega, hbef, fun j y hj hy hlt => hc24 (hm ((lo + hi) / 2) j x19 y (by omega) hx20 hy hlt), hk5, rfl⟩
 refine V_exit <| X_exit_then <| X_exit_then <| X_exit_here <| X_then <| V_seq <| Vd1 (acts [11]) none_ [1, 2, 3, 4, 5, 6, 7, 8, 9, 10, 11, 0, 12, 13, 14, 15] fun w27 hk26 he28 K31 _ => ?_
 replace hb1 := hb1.k0 hk26
 replace hA := hA.keep0 hk26
 replace hK0 := hK0.tn hk26
 have qhb1 := hb1
 refine Gn [5, 6, 7, 8, 9, 10, 11, 0, 12, 13, 14, 15] [0, 2, 4, 9, 39] ?_
 by_cases hg32 : (lo : Int) < (xs.length : Int)
 ·
  refine Et 39 hg32 <| Gn [8, 9, 10, 11, 0, 12, 13, 14, 15] [4, 9, 39, 40, 41, 42] ?_
  obtain ⟨b33, o33, L33, T33, rfl, hat33⟩ := SlT.opn hA
  have hb33lt := hat33.blk.lt
  refine Gi (b := b33) (o := o33) (len := xs.length) (cap := cap) (j := lo) 149 8 64 .i64 ?_
  obtain ⟨x34, hx35⟩ := exAt (xs := xs) (i := lo)
  refine Ma (o33 + lo * 8) (Ci.cells x34) 8 hat33.blk id (At.elem' hat33 (es_at hx35)) (At.len hat33 (es_at hx35)) <| Ma 0 kl 2 qhb1 id (take_all hkl) hkl <| GI_call0 { callee := (Callee.value (Operand.tmp 40)), args := #[(Operand.tmp 44),(Operand.tmp 45)], argTypes := #[149, 147] } F #[.agg (Ci.cells x34).toArray, .agg kl.toArray] (some 46) (by kernel_rfl) (by kernel_rfl) (by kernel_rfl) (by kernel_rfl) hb (hF x34 _) ?_
  rintro _ w36 ⟨rfl, hk37⟩
  refine ⟨_, rfl, ?_⟩
  have hsz38 := Keep.size hk37
  replace hK0 := hK0.tn hk37
  refine Gn [] [6, 7] <| GI_end <| X_then <| V_ret ?_
  have hlh : lo = hi := by omega
  subst hlh
  exact Xr (.tuple #[nt (lo : Int), .bool (decide (ord x34 = 0))]) ⟨lo, _, rfl, hK0, by omega, hbef, haft, (by rw [hx35])⟩
 refine Ef 39 hg32 <| Gn [] [6, 7] <| GI_end <| X_then <| V_ret ?_
 have hlh : lo = hi := by omega
 subst hlh
 exact Xr (.tuple #[nt (lo : Int), .bool false]) ⟨lo, _, rfl, hK0, by omega, hbef, haft, (by rw [List.getElem?_eq_none (by omega)])⟩
end Go.Al.GV
namespace Go.Al.GV
open Go Go.RowKit Go.Proofs
theorem clone_nil (w : World) : Calls Tryz.prog 92 #[.slice none 0 0] w fun e w' => e = .returned (.slice none 0 0) ∧ w' = w := by
 refine eV ?_
 refine Vr <| On 1 [0] <| Oe <| V_seq <| Vn [0, 4] <| Vo <| Vs [(2, .slice none 0 0)] <| Rt ?_
 exact X_return _ rfl ⟨rfl, rfl⟩
theorem clone_at (b o cap : Nat) (L : List Value) (T : TypeId) (xs : List Ci) (w : World) (h : At w b o L T 8 cap (xs.map Ci.cells)) (hn : xs.length ≤ 1000000) : Calls Tryz.prog 92 #[sl_ b o xs.length cap] w fun e w' => ∃ A' cap', e = .returned (.slice A' xs.length cap') ∧ SlT w' 8 Ci.cells A' cap' xs ∧ Keep none_ w w' ∧ (∀ k, inA A' k → w.heap.size ≤ k) := by
 have hblt := h.blk.lt
 have hK0 := Keep.refl none_ w
 refine eV ?_
 refine Vr <| On 1 [0] <| Oe <| V_seq <| Vn [0, 4] <| Vf <| Vsk <| Vr <| OI_slit (E := 149) (zv := .agg #[nt 0, nt 0, nt 0, .bool false, nt 0, nt 0, nt 0, nt 0]) (sz := 8) (by_ := 64) 150 0 #[] [] [] (some 5) (by kernel_rfl) (by kernel_rfl) (by kernel_rfl) (by omega) rfl (by omega) (by intro v hv; cases hv) (by kernel_rfl) rfl ?_
 intro b1 w1 e1 hb1 k1 z1
 have hsz2 := Keep.size k1
 replace h := h.k0 k1
 replace hK0 := hK0.tn k1
 have hb1lt := hb1.lt
 refine Os 2 [(5, sl_ b1 0 0 0),(6, sl_ b o xs.length cap)] <| OI_append (t := 150) (at2 := 150) (E := 149) (E2 := 149) (sz := 8) (by_ := 64) (zv := .agg #[nt 0, nt 0, nt 0, .bool false, nt 0, nt 0, nt 0, nt 0]) (m := 0) (k := xs.length) (.tmp 5) (.tmp 6) (sl_ b1 0 0 0) (sl_ b o xs.length cap) (some 7) (by kernel_rfl) (by kernel_rfl) (by kernel_rfl) (by kernel_rfl) (by kernel_rfl) (by kernel_rfl) (by kernel_rfl) (SlT.slr (slt_blk (f := Ci.cells) (xs := []) hb1 Ci.len rfl)) (SlT.slr (At.slt h)) (one_flat Ci.one) (by omega) (by omega) (by omega) (by omega) ?_
 intro v w9 hap
 obtain ⟨A9, cap9, rfl, h9, hin⟩ := SlT.of (xs := xs) hap.holds (by omega) (by simp) (fun x _ => Ci.len x)
 have hk9 : Keep (only b1) w1 w9 := hap.keep
 have hown : ∀ k, inA A9 k → w.heap.size ≤ k := fun k hk => by rcases hap.own k (hin k hk) with h | h; (have h : k = b1 := h; omega); omega
 have hsz3 := Keep.size hk9
 replace hK0 := Keep.fr hK0 hk9
 refine Op_ [(7, .slice A9 (0 + xs.length) cap9)] <| Oq (u := .slice A9 (0 + xs.length) cap9) (v := .slice A9 xs.length cap9) 7 (by rw [Nat.zero_add]) <| Ose [(2, .slice A9 xs.length cap9)] <| V_ret ?_
 exact X_return _ rfl ⟨A9, cap9, rfl, h9, hK0, hown⟩
theorem clone_spec (A : Option Addr) (cap : Nat) (xs : List Ci) (w : World) (hA : SlT w 8 Ci.cells A cap xs) (hn : xs.length ≤ 1000000) : Calls Tryz.prog 92 #[.slice A xs.length cap] w fun e w' => ∃ A' cap', e = .returned (.slice A' xs.length cap') ∧ SlT w' 8 Ci.cells A' cap' xs ∧ Keep none_ w w' ∧ (∀ k, inA A' k → w.heap.size ≤ k) := by
  rcases Nat.eq_zero_or_pos xs.length with h0 | h0
  · obtain rfl := List.length_eq_zero_iff.1 h0
    rcases hA with ⟨rfl, rfl, _⟩ | ⟨b, o, L, T, rfl, h1, h2, h3, h4, h5⟩
    · exact (clone_nil w).mono (by rintro e w' ⟨rfl, rfl⟩; exact ⟨none, 0, rfl, SlT.nil _ _ _, Keep.refl _ _, fun k hk => (inA_none hk).elim⟩)
    · exact clone_at b o cap L T [] w ⟨h1, h2, h3, h4, h5⟩ hn
  · obtain ⟨b, o, L, T, rfl, h⟩ := hA.open_ h0
    exact clone_at b o cap L T xs w h hn
theorem insert_nil (vb : Nat) (x : Ci) (w : World) (hv : Blk w vb (Ci.cells x) 149) : Calls Tryz.prog 93 #[.slice none 0 0, nt 0, sl_ vb 0 1 1] w fun e w' => ∃ A' cap', e = .returned (.slice A' 1 cap') ∧ SlT w' 8 Ci.cells A' cap' [x] ∧ Keep none_ w w' ∧ (∀ k, inA A' k → w.heap.size ≤ k) := by
 have hvblt := hv.lt
 have hK0 := Keep.refl none_ w
 refine eV ?_
 refine Vr <| On 1 [0, 1, 2] <| Oer <| On 2 [0, 1, 2, 10, 11] <| OI_pure (some 12) ((Op.slice 150 (Operand.tmp 10) (some (Operand.tmp 11)) none none)) (by kernel_rfl) (pure_slice (E := 149) (sz := 8) (by_ := 64) (base := none) (len := 0) (cap := 0) (lo := (some (.tmp 11))) (hi := none) (l := 0) (h := 0) (by kernel_rfl) (by kernel_rfl) ⟨.i64, by kernel_rfl⟩ rfl (by omega) (by omega)) <| Op_ [(0, .slice none 0 0),(1, nt 0),(2, sl_ vb 0 1 1)] <| Oer <| On 3 [0, 1, 2, 7] <| Oe <| V_seq <| Vn [0, 1, 2, 7, 16] <| Vf <| Vsk <| Vr <| On 3 [0, 1, 2, 7, 8] <| Oe <| V_seq <| Vn [0, 1, 2, 7, 8, 22] <| Vo <| Vr <| Os 2 [(23, .slice none 0 0),(24, sl_ vb 0 1 1)] <| OI_append (t := 150) (at2 := 150) (E := 149) (E2 := 149) (sz := 8) (by_ := 64) (zv := .agg #[nt 0, nt 0, nt 0, .bool false, nt 0, nt 0, nt 0, nt 0]) (m := 0) (k := 1) (.tmp 23) (.tmp 24) (.slice none 0 0) (sl_ vb 0 1 1) (some 25) (by kernel_rfl) (by kernel_rfl) (by kernel_rfl) (by kernel_rfl) (by kernel_rfl) (by kernel_rfl) (by kernel_rfl) (.inl ⟨rfl, rfl, rfl⟩) (slr_one hv (Ci.len _)) (Ci.one _) (by omega) (by omega) (by omega) (by omega) ?_
 intro v w9 hap
 obtain ⟨A9, cap9, rfl, h9, hin⟩ := SlT.of (xs := [x]) hap.holds rfl (by simp) (fun x _ => Ci.len x)
 have hk9 : Keep none_ w w9 := hap.keep
 have hown : ∀ k, inA A9 k → w.heap.size ≤ k := fun k hk => by rcases hap.own k (hin k hk) with h | h; exact h.elim; exact h
 have hsz1 := Keep.size hk9
 replace hK0 := hK0.tn hk9
 refine Op_ [(25, .slice A9 (0 + 1) cap9)] <| Oq (u := .slice A9 (0 + 1) cap9) (v := .slice A9 1 cap9) 25 (by rw [Nat.zero_add]) <| Ose [(6, .slice A9 1 cap9)] <| Rt ?_
 exact X_return _ rfl ⟨A9, cap9, rfl, h9, hK0, hown⟩
theorem insert_at (b o cap vb i : Nat) (L : List Value) (T : TypeId) (xs : List Ci) (x : Ci) (w : World) (h : At w b o L T 8 cap (xs.map Ci.cells)) (hv : Blk w vb (Ci.cells x) 149) (hne : vb ≠ b) (hi : i ≤ xs.length) (hn : xs.length ≤ 1000000) : Calls Tryz.prog 93 #[sl_ b o xs.length cap, nt (i : Int), sl_ vb 0 1 1] w fun e w' => ∃ A' cap', e = .returned (.slice A' (xs.length + 1) cap') ∧ SlT w' 8 Ci.cells A' cap' (xs.take i ++ x :: xs.drop i) ∧ Keep (only b) w w' ∧ (∀ k, inA A' k → k = b ∨ w.heap.size ≤ k) := by
 have hblt := h.blk.lt
 have hvblt := hv.lt
 have hle : xs.length ≤ cap := by simpa using h.le
 have hK0 : Keep (only b) w w := Keep.refl _ _
 refine eV ?_
 refine Vr <| On 1 [0, 1, 2] <| Oer <| On 2 [0, 1, 2, 10, 11] <| OI_pure (some 12) ((Op.slice 150 (Operand.tmp 10) (some (Operand.tmp 11)) none none)) (by kernel_rfl) (pure_slice (E := 149) (sz := 8) (by_ := 64) (base := (some ⟨b, o, none⟩)) (len := xs.length) (cap := cap) (lo := (some (.tmp 11))) (hi := none) (l := i) (h := xs.length) (by kernel_rfl) (by kernel_rfl) ⟨.i64, by kernel_rfl⟩ rfl (by omega) (by omega)) <| Op_ [(0, sl_ b o xs.length cap),(1, nt (i : Int)),(2, sl_ vb 0 1 1)] <| Oer <| On 3 [0, 1, 2, 7] <| Oe <| V_seq <| Vn [0, 1, 2, 7, 16] <| Vf <| Vsk <| Vr <| On 3 [0, 1, 2, 7, 8] <| Oe <| V_seq <| Vn [0, 1, 2, 7, 8, 22] <| Vi ((i : Int) = (xs.length : Int)) (fun hc1 => ?_) (fun hc1 => ?_)
 ·
  refine Vr <| On 2 [23, 24] ?_
  obtain rfl : i = xs.length := by omega
  refine OI_append (t := 150) (at2 := 150) (E := 149) (E2 := 149) (sz := 8) (by_ := 64) (zv := .agg #[nt 0, nt 0, nt 0, .bool false, nt 0, nt 0, nt 0, nt 0]) (m := xs.length) (k := 1) (.tmp 23) (.tmp 24) (sl_ b o xs.length cap) (sl_ vb 0 1 1) (some 25) (by kernel_rfl) (by kernel_rfl) (by kernel_rfl) (by kernel_rfl) (by kernel_rfl) (by kernel_rfl) (by kernel_rfl) (SlT.slr (At.slt h)) (slr_one hv (Ci.len _)) (Ci.one _) (by omega) (by omega) (by omega) (by omega) ?_
  intro v w9 hap
  obtain ⟨A9, cap9, rfl, h9, hin⟩ := SlT.of (xs := xs.take xs.length ++ x :: xs.drop xs.length) hap.holds (by simp) (by simp) (fun x _ => Ci.len x)
  have hk9 : Keep (only b) w w9 := hap.keep
  have hown : ∀ k, inA A9 k → k = b ∨ w.heap.size ≤ k := fun k hk => hap.own k (hin k hk)
  have hsz2 := Keep.size hk9
  replace hK0 := Keep.fr hK0 hk9
  refine Ose [(6, .slice A9 (xs.length + 1) cap9)] <| Rt ?_
  exact X_return _ rfl ⟨A9, cap9, rfl, h9, hK0, hown⟩
 refine Vsk <| V_seq <| Vr ?_
 have hw3 : i64.wrap ((xs.length : Int) + 1) = ((xs.length + 1 : Nat) : Int) := wrp
 refine On 3 [0, 1, 2, 7, 8, 28] <| Oq (u := nt (i64.wrap ((xs.length : Int) + 1))) (v := nt ((xs.length + 1 : Nat) : Int)) 28 (by rw [hw3]) <| Oen [0, 1, 2, 7, 8, 31] <| Vi (((xs.length + 1 : Nat) : Int) > (cap : Int)) (fun hc4 => ?_) (fun hc4 => ?_)
 ·
  refine Vr <| On 2 [0, 1, 2, 7, 8, 32, 33] <| Ost (base := (some ⟨b, o, none⟩)) (len := xs.length) (cap := cap) (j := i) 149 8 64 ?_
  have hw5 : i64.wrap ((xs.length : Int) + 1) = ((xs.length + 1 : Nat) : Int) := wrp
  refine On 6 [0, 1, 2, 7, 34, 37] <| Oq (u := nt (i64.wrap ((xs.length : Int) + 1))) (v := nt ((xs.length + 1 : Nat) : Int)) 37 (by rw [hw5]) ?_
  have hw6 : i64.wrap (((xs.length + 1 : Nat) : Int) - (i : Int)) = ((xs.length + 1 - i : Nat) : Int) := wrp
  refine On 8 [0, 1, 2, 7, 34, 39] <| Oq (u := nt (i64.wrap (((xs.length + 1 : Nat) : Int) - (i : Int)))) (v := nt ((xs.length + 1 - i : Nat) : Int)) 39 (by rw [hw6]) <| OI_appmake (t := 150) (E := 149) (at2 := 3) (sz := 8) (by_ := 64) (m := i) (k := xs.length + 1 - i) (N := xs.length + 1) (kd := .i64) (zv := .agg #[nt 0, nt 0, nt 0, .bool false, nt 0, nt 0, nt 0, nt 0]) (s := sl_ b o i cap) (base := some ⟨b, o, none⟩) (cap := cap) (.tmp 34) (.tmp 39) (some 40) (by kernel_rfl) (by kernel_rfl) (by kernel_rfl) (by kernel_rfl) (by kernel_rfl) (by kernel_rfl) rfl (At.prefT h hi) (by omega) (by omega) (by omega) (by omega) (by kernel_rfl) (by omega) ?_
  intro b9 nc zs w9 hb9 hnc hzs hB9 hk9 hz9
  have hsz7 := Keep.size hk9
  replace hv := hv.k0 hk9
  replace h := h.k0 hk9
  replace hK0 := hK0.tn hk9
  have hb9lt := hB9.lt
  obtain ⟨g1, g2, g3, g4, g5⟩ := grow_cells (sz := 8) (n := xs.length) (i := i) (nc := nc) (c := Ci.cells x) (zs := zs) (es := xs.map Ci.cells) h.sizes (by simp) hi (by omega) (Ci.len x) hzs
  refine On 10 [0, 1, 2, 7, 9] <| Oer <| On 2 [0, 1, 2, 7, 9, 41, 42] <| Osf (b := b9) (o := 0) (len := xs.length + 1) (cap := nc) (j := i) 149 8 64 <| Os 4 [(0, sl_ b o xs.length cap),(1, nt (i : Int)),(7, nt 1),(9, sl_ b9 0 (xs.length + 1) nc),(43, .slice (some ⟨b9, 0 + i * 8, none⟩) (xs.length + 1 - i) (nc - i)),(44, sl_ vb 0 1 1)] <| OI_turn (some 45) ((Op.call { callee := (Callee.builtin Builtin.copy), args := #[(Operand.tmp 43),(Operand.tmp 44)], argTypes := #[150, 150] })) (by kernel_rfl) (Blk.lt hB9) (copy_run (t := 150) (E := 149) (at2 := 150) (sz := 8) (by_ := 64) (b := b9) (o := 0 + i * 8) (dl := xs.length + 1 - i) (dc := nc - i) (k := 1) (m := 1) (cells := Ci.cells x) (x := (.tmp 43)) (y := (.tmp 44)) (by kernel_rfl) (by kernel_rfl) hB9 (slr_one hv (Ci.len _)) (by omega) (by omega) (fun u hu => Ci.one _ u (List.mem_of_mem_take hu))) ?_
  intro w8 hB9 hk9 hz10
  replace hB9 : Blk w8 b9 (over (((xs.map Ci.cells).take i).flatten ++ zs) (i * 8) (Ci.cells x)) 149 := by rwa [show (Ci.cells x).take (1 * 8) = Ci.cells x from List.take_of_length_le (by rw [Ci.len]; omega), Nat.zero_add] at hB9
  have hsz11 := Keep.size hk9
  replace h := h.k1 hk9
  replace hK0 := Keep.fr hK0 hk9
  refine Oe <| V_seq <| Vd1 (acts [8]) (only b9) [0, 1, 2, 3, 4, 5, 6, 7, 8] fun w13 hk12 he14 K17 _ => ?_
  replace hB9 := hB9.k0 hk12
  replace h := h.k0 hk12
  replace hK0 := hK0.tn hk12
  have hw18 : i64.wrap ((i : Int) + 1) = ((i + 1 : Nat) : Int) := wrp
  refine Gn [4, 5, 6, 7, 8] [0, 1, 9, 46, 49] <| Gq_ (u := nt (i64.wrap ((i : Int) + 1))) (v := nt ((i + 1 : Nat) : Int)) 49 (by rw [hw18]) <| Gsf (b := b9) (o := 0) (len := xs.length + 1) (cap := nc) (j := i + 1) 149 8 64 <| Gs [7, 8] [(9, sl_ b9 0 (xs.length + 1) nc),(50, .slice (some ⟨b9, 0 + (i + 1) * 8, none⟩) (xs.length + 1 - (i + 1)) (nc - (i + 1))),(51, sl_ b o xs.length cap),(52, nt (i : Int))] <| Gsf (b := b) (o := o) (len := xs.length) (cap := cap) (j := i) 149 8 64 <| GI_final 8 (by kernel_rfl) (by kernel_rfl) <| OI_turn (some 54) ((Op.call { callee := (Callee.builtin Builtin.copy), args := #[(Operand.tmp 50),(Operand.tmp 53)], argTypes := #[150, 150] })) (by kernel_rfl) (Blk.lt hB9) (copy_run (t := 150) (E := 149) (at2 := 150) (sz := 8) (by_ := 64) (b := b9) (o := 0 + (i + 1) * 8) (dl := xs.length + 1 - (i + 1)) (dc := nc - (i + 1)) (k := xs.length - i) (m := xs.length - i) (cells := ((xs.map Ci.cells).drop i).flatten) (x := (.tmp 50)) (y := (.tmp 53)) (by kernel_rfl) (by kernel_rfl) hB9 (At.suffT h hi) (by omega) (by omega) (fun u hu => one_flatten Ci.one u (by rw [List.map_drop]; exact List.mem_of_mem_take hu))) ?_
  intro w19 hB9 hk20 hz21
  replace hB9 : Blk w19 b9 (over (over (((xs.map Ci.cells).take i).flatten ++ zs) (i * 8) (Ci.cells x)) ((i + 1) * 8) ((xs.map Ci.cells).drop i).flatten) 149 := by rwa [show ((xs.map Ci.cells).drop i).flatten.take ((xs.length - i) * 8) = ((xs.map Ci.cells).drop i).flatten from List.take_of_length_le (by omega), Nat.zero_add] at hB9
  have hsz22 := Keep.size hk20
  replace hK0 := Keep.fr hK0 hk20
  refine Oer <| Ose [(6, sl_ b9 0 (xs.length + 1) nc)] <| Rt ?_
  exact X_return _ rfl ⟨_, nc, rfl, ins_slt hB9 hi (by omega) (by rw [g3, g4]; omega) (by rw [List.length_map]; exact g2) Ci.len, hK0, fun k hk => .inr (by rw [inA_some hk]; omega)⟩
 refine Vsk <| Vr ?_
 have hw23 : i64.wrap ((xs.length : Int) + 1) = ((xs.length + 1 : Nat) : Int) := wrp
 refine On 4 [1, 2, 7, 8, 56, 59] <| Oq (u := nt (i64.wrap ((xs.length : Int) + 1))) (v := nt ((xs.length + 1 : Nat) : Int)) 59 (by rw [hw23]) <| Ost (base := (some ⟨b, o, none⟩)) (len := xs.length) (cap := cap) (j := xs.length + 1) 149 8 64 <| On 6 [0, 1, 2, 7, 8] <| Oe <| V_seq <| Vr ?_
 have hw24 : i64.wrap ((i : Int) + 1) = ((i + 1 : Nat) : Int) := wrp
 refine Os 5 [(0, sl_ b o (xs.length + 1) cap),(1, nt (i : Int)),(2, sl_ vb 0 1 1),(7, nt 1),(8, nt (xs.length : Int)),(61, sl_ vb 0 1 1),(62, sl_ b o (xs.length + 1) cap),(65, nt (i64.wrap ((i : Int) + 1)))] <| Oq (u := nt (i64.wrap ((i : Int) + 1))) (v := nt ((i + 1 : Nat) : Int)) 65 (by rw [hw24]) <| Osf (b := b) (o := o) (len := xs.length + 1) (cap := cap) (j := i + 1) 149 8 64 <| OI_value (d := some 67) (op := (Op.call (kl 120 #[(.tmp 61),(.tmp 66)] #[150, 150]))) (v := .bool false) (by kernel_rfl) (overlaps_run (f := 120) (fn := Tryz.f120) (tS := 150) (tR := 4) (E := 149) (sz := 8) (by_ := 64) (vb := vb) (vo := 0) (b := b) (o := o + (i + 1) * 8) (la := 1) (ca := 1) (lb := xs.length + 1 - (i + 1)) (cb := cap - (i + 1)) rfl (by kernel_rfl) (by kernel_rfl) (by kernel_rfl) (by kernel_rfl) (by kernel_rfl) (by kernel_rfl) hne hv (At.blk h) (by intro hL; have := h.room; rw [hL] at this; simp at this; omega)) <| Oen [0, 1, 2, 7, 8, 68] <| Vo <| V_seq <| Vd1 (acts [8]) (only b) [0, 1, 2, 3, 4, 5, 6, 7, 8] fun w26 hk25 he27 K30 _ => ?_
 replace hv := hv.k0 hk25
 replace h := h.k0 hk25
 replace hK0 := hK0.tn hk25
 have hw31 : i64.wrap ((i : Int) + 1) = ((i + 1 : Nat) : Int) := wrp
 refine Gn [4, 5, 6, 7, 8] [0, 1, 2, 69, 72] <| Gq_ (u := nt (i64.wrap ((i : Int) + 1))) (v := nt ((i + 1 : Nat) : Int)) 72 (by rw [hw31]) <| Gsf (b := b) (o := o) (len := xs.length + 1) (cap := cap) (j := i + 1) 149 8 64 <| Gs [7, 8] [(0, sl_ b o (xs.length + 1) cap),(1, nt (i : Int)),(2, sl_ vb 0 1 1),(73, .slice (some ⟨b, o + (i + 1) * 8, none⟩) (xs.length + 1 - (i + 1)) (cap - (i + 1))),(74, sl_ b o (xs.length + 1) cap),(75, nt (i : Int))] <| Gsf (b := b) (o := o) (len := xs.length + 1) (cap := cap) (j := i) 149 8 64 <| GI_final 8 (by kernel_rfl) (by kernel_rfl) ?_
 obtain ⟨g1, g2, g3⟩ := ins_cells (i := i) (c := Ci.cells x) h (by simp; omega) (by simp; omega) (Ci.len x)
 have hdc := h.dropcells (i := i)
 have hroom := h.room
 rw [List.length_map] at g1 g2 g3 hdc
 have hdl : ((L.drop (o + i * 8)).take ((xs.length + 1 - i) * 8)).take ((xs.length - i) * 8) = (L.drop (o + i * 8)).take ((xs.length - i) * 8) := by rw [List.take_take, Nat.min_eq_left (by omega)]
 refine OI_turn (some 77) ((Op.call { callee := (Callee.builtin Builtin.copy), args := #[(Operand.tmp 73),(Operand.tmp 76)], argTypes := #[150, 150] })) (by kernel_rfl) (Blk.lt (At.blk h)) (copy_run (t := 150) (E := 149) (at2 := 150) (sz := 8) (by_ := 64) (b := b) (o := o + (i + 1) * 8) (dl := xs.length + 1 - (i + 1)) (dc := cap - (i + 1)) (k := xs.length + 1 - i) (m := xs.length - i) (cells := (L.drop (o + i * 8)).take ((xs.length + 1 - i) * 8)) (x := (.tmp 73)) (y := (.tmp 76)) (by kernel_rfl) (by kernel_rfl) (At.blk h) (slr_blk (At.blk h) (by omega) (by omega)) (by omega) (by omega) (fun u hu => one_flatten (xs := xs.drop i) Ci.one u (by rw [List.map_drop, ← hdc, ← hdl]; exact hu))) ?_
 intro w32 hB hk33 hz34
 replace hB : Blk w32 b (over L (o + (i + 1) * 8) ((L.drop (o + i * 8)).take ((xs.length - i) * 8))) T := by rwa [hdl] at hB
 have hsz35 := Keep.size hk33
 replace hv := hv.k1 hk33
 replace hK0 := Keep.fr hK0 hk33
 refine Oer <| On 2 [0, 2, 78, 79] <| Osf (b := b) (o := o) (len := xs.length + 1) (cap := cap) (j := i) 149 8 64 <| Os 4 [(0, sl_ b o (xs.length + 1) cap),(80, .slice (some ⟨b, o + i * 8, none⟩) (xs.length + 1 - i) (cap - i)),(81, sl_ vb 0 1 1)] <| OI_turn (some 82) ((Op.call { callee := (Callee.builtin Builtin.copy), args := #[(Operand.tmp 80),(Operand.tmp 81)], argTypes := #[150, 150] })) (by kernel_rfl) (Blk.lt hB) (copy_run (t := 150) (E := 149) (at2 := 150) (sz := 8) (by_ := 64) (b := b) (o := o + i * 8) (dl := xs.length + 1 - i) (dc := cap - i) (k := 1) (m := 1) (cells := Ci.cells x) (x := (.tmp 80)) (y := (.tmp 81)) (by kernel_rfl) (by kernel_rfl) hB (slr_one hv (Ci.len _)) (by omega) (by omega) (fun u hu => Ci.one _ u (List.mem_of_mem_take hu))) ?_
 intro w36 hB hk37 hz38
 replace hB : Blk w36 b (over (over L (o + (i + 1) * 8) ((L.drop (o + i * 8)).take ((xs.length - i) * 8))) (o + i * 8) (Ci.cells x)) T := by rwa [show (Ci.cells x).take (1 * 8) = Ci.cells x from List.take_of_length_le (by rw [Ci.len]; omega)] at hB
 have hsz39 := Keep.size hk37
 replace hK0 := Keep.fr hK0 hk37
 refine Oer <| Ose [(6, sl_ b o (xs.length + 1) cap)] <| Rt ?_
 exact X_return _ rfl ⟨_, cap, rfl, ins_slt hB hi (by omega) (by rw [g3]; omega) (by rw [List.length_map]; exact g2) Ci.len, hK0, fun k hk => .inl (inA_some hk)⟩
theorem insert_spec (A : Option Addr) (cap vb i : Nat) (xs : List Ci) (x : Ci) (w : World) (hA : SlT w 8 Ci.cells A cap xs) (hv : Blk w vb (Ci.cells x) 149) (hne : ¬ inA A vb) (hi : i ≤ xs.length) (hn : xs.length ≤ 1000000) : Calls Tryz.prog 93 #[.slice A xs.length cap, nt (i : Int), sl_ vb 0 1 1] w fun e w' => ∃ A' cap', e = .returned (.slice A' (xs.length + 1) cap') ∧ SlT w' 8 Ci.cells A' cap' (xs.take i ++ x :: xs.drop i) ∧ Keep (inA A) w w' ∧ (∀ k, inA A' k → inA A k ∨ w.heap.size ≤ k) := by
  rcases hA with ⟨rfl, rfl, h0⟩ | ⟨b, o, L, T, rfl, h1, h2, h3, h4, h5⟩
  · obtain rfl : xs = [] := by simpa using h0
    obtain rfl : i = 0 := by simpa using hi
    exact (insert_nil vb x w hv).mono (by rintro e w' ⟨A', cap', rfl, h1, h2, h3⟩; exact ⟨A', cap', rfl, h1, h2.ofNone, fun k hk => .inr (h3 k hk)⟩)
  · exact (insert_at b o cap vb i L T xs x w ⟨h1, h2, h3, h4, h5⟩ hv (fun h => hne ⟨_, rfl, h⟩) hi hn).mono (by
      rintro e w' ⟨A', cap', rfl, h1, h2, h3⟩
      exact ⟨A', cap', rfl, h1, h2.mono (fun k _ hk => ⟨_, rfl, hk⟩), fun k hk => (h3 k hk).imp (fun h => ⟨_, rfl, h⟩) id⟩)
theorem delete_spec (b o cap i : Nat) (L : List Value) (T : TypeId) (xs : List Ci) (w : World) (h : At w b o L T 8 cap (xs.map Ci.cells)) (hi : i < xs.length) (hn : xs.length ≤ 1000000) : Calls Tryz.prog 97 #[sl_ b o xs.length cap, nt (i : Int), nt ((i + 1 : Nat) : Int)] w fun e w' => e = .returned (sl_ b o (xs.length - 1) cap) ∧ SlT w' 8 Ci.cells (some ⟨b, o, none⟩) cap (xs.take i ++ xs.drop (i + 1)) ∧ Keep (only b) w w' := by
 have hblt := h.blk.lt
 have hle : xs.length ≤ cap := by simpa using h.le
 have hK0 : Keep (only b) w w := Keep.refl _ _
 refine eV ?_
 refine Vr <| On 1 [0, 1, 2] <| Oer <| On 5 [0, 1, 2, 8, 9, 10, 12] <| OI_pure (some 13) ((Op.slice 150 (Operand.tmp 8) (some (Operand.tmp 9)) (some (Operand.tmp 10)) (some (Operand.tmp 12)))) (by kernel_rfl) (pure_slice3 (E := 149) (sz := 8) (by_ := 64) (base := (some ⟨b, o, none⟩)) (len := xs.length) (cap := cap) (l := i) (h := i + 1) (m := xs.length) (k1 := .i64) (k2 := .i64) (k3 := .i64) (by kernel_rfl) (by kernel_rfl) (by kernel_rfl) (by kernel_rfl) (by kernel_rfl) (by omega) (by omega) (by omega)) <| Op_ [(0, sl_ b o xs.length cap),(1, nt (i : Int)),(2, nt ((i + 1 : Nat) : Int))] <| Oe <| V_seq <| Vs [(0, sl_ b o xs.length cap),(1, nt (i : Int)),(2, nt ((i + 1 : Nat) : Int)),(16, .bool (decide ((i : Int) = ((i + 1 : Nat) : Int))))] <| Vi ((i : Int) = ((i + 1 : Nat) : Int)) (fun hc1 => ?_) (fun hc1 => ?_)
 ·
  exact (by omega : False).elim
 refine Vsk <| Vn [0, 1, 2, 7] <| V_seq <| Vd1 (acts [6]) (only b) [0, 1, 2, 3, 4, 5, 6, 7] fun w3 hk2 he4 K7 _ => ?_
 replace h := h.k0 hk2
 replace hK0 := hK0.tn hk2
 refine Gn [2, 3, 4, 5, 6, 7] [0, 2, 7, 20, 21] <| GI_pure (some 22) ((Op.slice 150 (Operand.tmp 20) none (some (Operand.tmp 21)) none)) (by kernel_rfl) (by kernel_rfl) (pure_sliceTo (E := 149) (sz := 8) (by_ := 64) (base := (some ⟨b, o, none⟩)) (len := xs.length) (cap := cap) (h := i) (kd := .i64) (by kernel_rfl) (by kernel_rfl) (by kernel_rfl) (by omega)) <| Gs [5, 6, 7] [(7, nt (xs.length : Int)),(22, sl_ b o i cap),(23, sl_ b o xs.length cap),(24, nt ((i + 1 : Nat) : Int))] ?_
 obtain ⟨A8, hA8⟩ : ∃ A8 : Option Addr, A8 = (if cap = i + 1 then some ⟨b, o, none⟩ else (some ⟨b, o, none⟩ : Option Addr).map (·.add ((i + 1) * 8))) := ⟨_, rfl⟩
 refine GI_pure (some 25) ((Op.slice 150 (Operand.tmp 23) (some (Operand.tmp 24)) none none)) (by kernel_rfl) (by kernel_rfl) (PureOp.cast (v' := .slice A8 (xs.length - (i + 1)) (cap - (i + 1))) (pure_slice (E := 149) (sz := 8) (by_ := 64) (base := some ⟨b, o, none⟩) (len := xs.length) (cap := cap) (lo := some (.tmp 24)) (hi := none) (l := i + 1) (h := xs.length) (by kernel_rfl) (by kernel_rfl) ⟨.i64, by kernel_rfl⟩ rfl (by omega) (by omega)) (by rw [hA8])) ?_
 have h8 := At.fromT h (i := i + 1) (by omega)
 rw [← hA8] at h8
 obtain ⟨g0, g1, g2, g3⟩ := del_cells (i := i) (zs := [nt 0, nt 0, nt 0, .bool false, nt 0, nt 0, nt 0, nt 0]) h (by simp; omega) (by simp)
 have hroom := h.room
 refine GI_turn (some 26) ((Op.call { callee := (Callee.builtin Builtin.append), args := #[(Operand.tmp 22),(Operand.tmp 25)], argTypes := #[150, 150] })) (by kernel_rfl) (by kernel_rfl) K7 (fun hh => rfl) (Blk.lt (At.blk h)) (append_in_run (t := 150) (at2 := 150) (E := 149) (E2 := 149) (sz := 8) (by_ := 64) (m := i) (k := xs.length - (i + 1)) (b := b) (o := o) (cap := cap) (new := ((xs.map Ci.cells).drop (i + 1)).flatten) (x := (.tmp 22)) (y := (.tmp 25)) (xv := .slice A8 (xs.length - (i + 1)) (cap - (i + 1))) (by kernel_rfl) (by kernel_rfl) (by kernel_rfl) (by kernel_rfl) (At.blk h) h8 (by omega) (by omega) (by rw [← List.map_drop]; exact one_flatten Ci.one)) ?_
 intro w9 hB hk9 hz9 K9
 have hsz8 := Keep.size hk9
 replace hK0 := Keep.fr hK0 hk9
 refine Gp_ [(7, nt (xs.length : Int)),(26, sl_ b o (i + (xs.length - (i + 1))) cap)] <| Gq_ (u := sl_ b o (i + (xs.length - (i + 1))) cap) (v := sl_ b o (xs.length - 1) cap) 26 (by rw [show i + (xs.length - (i + 1)) = xs.length - 1 by omega]) <| Gn [] [0, 7] <| GI_end <| X_then <| Vr <| On 4 [0, 27, 29, 30] <| OI_pure (some 31) ((Op.slice 150 (Operand.tmp 27) (some (Operand.tmp 29)) (some (Operand.tmp 30)) none)) (by kernel_rfl) (pure_sliceMid (E := 149) (sz := 8) (by_ := 64) (b := b) (o := o) (len := xs.length - 1) (cap := cap) (l := xs.length - 1) (h := xs.length) (k1 := .i64) (k2 := .i64) (by kernel_rfl) (by kernel_rfl) (by kernel_rfl) (by kernel_rfl) (by omega) (by omega) (by omega)) <| Op_ [(0, sl_ b o (xs.length - 1) cap),(31, .slice (some ⟨b, o + (xs.length - 1) * 8, none⟩) (xs.length - (xs.length - 1)) (cap - (xs.length - 1)))] <| Oq (u := .slice (some ⟨b, o + (xs.length - 1) * 8, none⟩) (xs.length - (xs.length - 1)) (cap - (xs.length - 1))) (v := .slice (some ⟨b, o + (xs.length - 1) * 8, none⟩) 1 (cap - (xs.length - 1))) 31 (by rw [show xs.length - (xs.length - 1) = 1 by omega]) ?_
 rw [List.length_map] at g2 g3
 refine OI_turn none ((Op.call { callee := (Callee.builtin Builtin.clear), args := #[(Operand.tmp 31)], argTypes := #[150] })) (by kernel_rfl) (Blk.lt hB) (clear_run (t := 150) (E := 149) (sz := 8) (by_ := 64) (zv := (.agg #[nt 0, nt 0, nt 0, .bool false, nt 0, nt 0, nt 0, nt 0])) (b := b) (o := o + (xs.length - 1) * 8) (k := 1) (cap := cap - (xs.length - 1)) (x := (.tmp 31)) (by kernel_rfl) (by kernel_rfl) (by kernel_rfl) (one_all (by kernel_rfl)) (by kernel_rfl) hB (by omega) (by rw [g1]; omega) ([nt 0, nt 0, nt 0, .bool false, nt 0, nt 0, nt 0, nt 0]) (by kernel_rfl)) ?_
 intro w10 hC hk10 hz10
 have hsz9 := Keep.size hk10
 replace hK0 := Keep.fr hK0 hk10
 refine Oer <| Ose [(6, sl_ b o (xs.length - 1) cap)] <| V_ret ?_
 exact X_return _ rfl ⟨rfl, del_slt hC hi (by omega) (by rw [g3]; omega) (by rw [List.length_map]; exact g2) Ci.len, hK0⟩
end Go.Al.GV
namespace Go.Al.GV
open Go Go.RowKit Go.Proofs
def ltC (a b a' b' : Int) : Prop := a < a' ∨ (a = a' ∧ b < b')
instance (a b a' b' : Int) : Decidable (ltC a b a' b') := by unfold ltC; infer_instance
theorem ordC_neg (a b : Int) (c : Ci) : ordC a b c < 0 ↔ ltC c.a c.b a b := by
  unfold ordC ltC
  simp only [orI, cmpI]
  rcases Int.lt_trichotomy c.a a with h1 | h1 | h1 <;> rcases Int.lt_trichotomy c.b b with h2 | h2 | h2 <;> simp_all <;> (repeat' split) <;> omega
theorem ordC_zero (a b : Int) (c : Ci) : ordC a b c = 0 ↔ c.a = a ∧ c.b = b := by
  unfold ordC
  simp only [orI, cmpI]
  rcases Int.lt_trichotomy c.a a with h1 | h1 | h1 <;> rcases Int.lt_trichotomy c.b b with h2 | h2 | h2 <;> simp_all <;> (repeat' split) <;> omega
theorem ltC_trans {a b c d e f : Int} (h : ltC a b c d) (k : ltC c d e f) : ltC a b e f := by unfold ltC at *; omega
def Srt (cs : List Ci) : Prop := cs.Pairwise fun x y => ltC x.a x.b y.a y.b
theorem Srt.mono {cs : List Ci} (h : Srt cs) (a b : Int) (i j : Nat) (x y : Ci) (hij : i ≤ j) (hx : cs[i]? = some x) (hy : cs[j]? = some y) (hlt : ordC a b y < 0) : ordC a b x < 0 := by
  rw [ordC_neg] at *
  rcases Nat.lt_or_eq_of_le hij with hij | rfl
  · obtain ⟨h1, rfl⟩ := List.getElem?_eq_some_iff.1 hx
    obtain ⟨h2, rfl⟩ := List.getElem?_eq_some_iff.1 hy
    exact ltC_trans (List.pairwise_iff_getElem.1 h i j h1 h2 hij) hlt
  · rw [hx] at hy; cases hy; exact hlt
structure GrAt (w : World) (g : Nat) (A : Option Addr) (cap : Nat) (cs : List Ci) : Prop where
  blk : Blk w g [.slice A cs.length cap] 152
  sl : SlT w 8 Ci.cells A cap cs
  off : ¬ inA A g
def Gr (D : Nat → Prop) (w : World) (g : Nat) (cs : List Ci) : Prop := Srt cs ∧ cs.length ≤ 100000 ∧ ∃ A cap, GrAt w g A cap cs ∧ ∀ k, inA A k → D k
theorem place_spec (g cap : Nat) (A : Option Addr) (cs : List Ci) (a b : Int) (w : World) (h : GrAt w g A cap cs) (hs : Srt cs) (hn : cs.length ≤ 100000) : Calls Tryz.prog 91 #[pt g, nt a, nt b] w fun e w' => ∃ (i : Nat) (ok : Bool), e = .returned (.tuple #[nt (i : Int), .bool ok]) ∧ Keep none_ w w' ∧ i ≤ cs.length ∧ (∀ (j : Nat) y, j < i → cs[j]? = some y → ordC a b y < 0) ∧ (∀ (j : Nat) y, i ≤ j → cs[j]? = some y → ¬ ordC a b y < 0) ∧ ok = (match cs[i]? with | some y => decide (ordC a b y = 0) | none => false) := by
 have hg := h.blk
 have hA := h.sl
 have hglt := hg.lt
 have hK0 := Keep.refl none_ w
 refine eV ?_
 refine Vr <| On 2 [0, 1, 2] <| Oer <| On 3 [1, 2, 10] <| Lr 0 (.slice A cs.length cap) hg <| On 7 [11, 14] <| Kg (bsearch_spec A cap 117 cs [nt a, nt b] (ordC a b) _ hA rfl (by omega) (by kernel_rfl) (fun c w => place1_spec c a b w) (Srt.mono hs a b)) ?_
 rintro _ w1 ⟨i, bb, rfl, hk2, hi, hbef, haft, hbb⟩
 refine ⟨_, rfl, ?_⟩
 have hsz3 := Keep.size hk2
 replace hK0 := hK0.tn hk2
 refine Ose [(6, nt (i : Int)),(7, .bool bb)] <| V_ret ?_
 exact X_return _ rfl ⟨i, bb, rfl, hK0, hi, hbef, haft, hbb⟩
theorem new_spec (D : Nat → Prop) (w : World) : Calls Tryz.prog 85 #[] w fun e w' => ∃ g, e = .returned (pt g) ∧ Gr D w' g [] ∧ Keep none_ w w' ∧ w.heap.size ≤ g := by
 have hK0 := Keep.refl none_ w
 refine eV ?_
 refine Vr <| On 1 [] <| Oer <| On 1 [1] <| Bx 152 [.slice none 0 0] ?_
 intro b1 w1 e1 hb1 k1 z1
 have hsz2 := Keep.size k1
 replace hK0 := hK0.tn k1
 have hb1lt := hb1.lt
 refine Ose [(0, pt b1)] <| V_ret ?_
 exact X_return _ rfl ⟨_, rfl, ⟨List.Pairwise.nil, by simp, none, 0, ⟨hb1, SlT.nil _ _ _, fun h => inA_none h⟩, fun k hk => (inA_none hk).elim⟩, hK0, by omega⟩
def getC (a b : Int) : List Ci → Option Vt
  | [] => none
  | x :: l => if x.a = a ∧ x.b = b then some x.v else getC a b l
def setC (a b : Int) (v : Vt) : List Ci → List Ci
  | [] => [⟨a, b, v⟩]
  | x :: l => if x.a = a ∧ x.b = b then ⟨a, b, v⟩ :: l else if ltC x.a x.b a b then x :: setC a b v l else ⟨a, b, v⟩ :: x :: l
def delC (a b : Int) : List Ci → List Ci
  | [] => []
  | x :: l => if x.a = a ∧ x.b = b then l else x :: delC a b l
theorem none_later {a b : Int} : ∀ {l : List Ci}, (∀ y ∈ l, ltC a b y.a y.b) → getC a b l = none ∧ delC a b l = l
  | [], _ => ⟨rfl, rfl⟩
  | y :: l, h => by
    have hy := h y (List.mem_cons_self ..)
    have hne : ¬ (y.a = a ∧ y.b = b) := by unfold ltC at hy; omega
    obtain ⟨h1, h2⟩ := none_later (fun z hz => h z (List.mem_cons_of_mem _ hz))
    exact ⟨by simp only [getC, if_neg hne, h1], by simp only [delC, if_neg hne, h2]⟩
theorem place_at {a b : Int} : ∀ (cs : List Ci) (i : Nat), Srt cs → i ≤ cs.length → (∀ (j : Nat) y, j < i → cs[j]? = some y → ordC a b y < 0) → (∀ (j : Nat) y, i ≤ j → cs[j]? = some y → ¬ ordC a b y < 0) →
    (∃ y, cs[i]? = some y ∧ ordC a b y = 0 ∧ y.a = a ∧ y.b = b ∧ getC a b cs = some y.v ∧ (∀ v, cs.set i ⟨a, b, v⟩ = setC a b v cs) ∧ cs.take i ++ cs.drop (i + 1) = delC a b cs) ∨
    ((∀ y, cs[i]? = some y → ordC a b y ≠ 0) ∧ getC a b cs = none ∧ (∀ v, cs.take i ++ ⟨a, b, v⟩ :: cs.drop i = setC a b v cs) ∧ delC a b cs = cs)
  | [], i, _, hi, _, _ => by
    obtain rfl : i = 0 := by simpa using hi
    right; exact ⟨fun y hy => by simp at hy, rfl, fun v => rfl, rfl⟩
  | x :: l, 0, hs, _, _, h2 => by
    have hx := h2 0 x (Nat.le_refl _) rfl
    have hs := List.pairwise_cons.1 hs
    by_cases h0 : ordC a b x = 0
    · left
      have he := (ordC_zero a b x).1 h0
      exact ⟨x, rfl, h0, he.1, he.2, by simp only [getC, if_pos he], fun v => by simp only [List.set_cons_zero, setC, if_pos he], by simp only [delC, if_pos he]; simp⟩
    · right
      have hne : ¬ (x.a = a ∧ x.b = b) := fun h => h0 ((ordC_zero a b x).2 h)
      have hnl : ¬ ltC x.a x.b a b := fun h => hx ((ordC_neg a b x).2 h)
      have hgt : ltC a b x.a x.b := by unfold ltC at *; omega
      obtain ⟨h3, h4⟩ := none_later (a := a) (b := b) (l := l) (fun y hy => ltC_trans hgt (hs.1 y hy))
      refine ⟨fun y hy => by simp at hy; subst hy; exact h0, by simp only [getC, if_neg hne, h3], fun v => by simp only [setC, if_neg hne, if_neg hnl]; simp, by simp only [delC, if_neg hne, h4]⟩
  | x :: l, i + 1, hs, hi, h1, h2 => by
    have hx := h1 0 x (Nat.succ_pos _) rfl
    have hlt := (ordC_neg a b x).1 hx
    have hne : ¬ (x.a = a ∧ x.b = b) := by unfold ltC at hlt; omega
    have hs := List.pairwise_cons.1 hs
    rcases place_at l i hs.2 (by simpa using hi) (fun j y hj hy => h1 (j + 1) y (by omega) (by simpa using hy)) (fun j y hj hy => h2 (j + 1) y (by omega) (by simpa using hy)) with ⟨y, g1, g2, g3, g4, g5, g6, g7⟩ | ⟨g1, g2, g3, g4⟩
    · left; exact ⟨y, by simpa using g1, g2, g3, g4, by simp only [getC, if_neg hne, g5], fun v => by simp only [List.set_cons_succ, setC, if_neg hne, if_pos hlt, g6], by simp only [delC, if_neg hne, ← g7]; simp⟩
    · right; exact ⟨fun y hy => g1 y (by simpa using hy), by simp only [getC, if_neg hne, g2], fun v => by simp only [setC, if_neg hne, if_pos hlt, ← g3 v]; simp, by simp only [delC, if_neg hne, g4]⟩
theorem get_spec (D : Nat → Prop) (g : Nat) (cs : List Ci) (a b : Int) (w : World) (h : Gr D w g cs) : Calls Tryz.prog 54 #[pt g, nt a, nt b] w fun e w' => e = .returned (.tuple #[.agg (Vt.cells ((getC a b cs).getD Vt.zero)).toArray, .bool (getC a b cs).isSome]) ∧ Keep none_ w w' := by
 obtain ⟨hs, hlen, A, cap, h, _⟩ := h
 have hgA := h.off
 have hg := h.blk
 have hA := h.sl
 have hglt := hg.lt
 have hltA := SlT.lt hA
 have hK0 := Keep.refl none_ w
 refine enterM Tryz.func54 rfl [pt g, nt a, nt b] 30 rfl rfl rfl ?_
 refine Vp [(0, pt g),(1, nt a),(2, nt b)] <| Vr <| Alc_ 23 (.agg #[nt 0, .bool false, nt 0, nt 0, nt 0, nt 0]) [nt 0, .bool false, nt 0, nt 0, nt 0, nt 0] ?_
 intro b1 w1 e1 hb1 k1 z1
 have hsz2 := Keep.size k1
 replace hg := hg.k0 k1
 replace hA := hA.keep0 k1
 replace hK0 := hK0.tn k1
 have hb1lt := hb1.lt
 refine On 2 [0, 1, 2, 6] <| Oe <| V_seq <| Vn [0, 1, 2, 6, 10] <| Vf <| Vsk <| Vr <| On 3 [0, 6, 13, 14, 15] <| Kg (place_spec g cap A cs a b _ ⟨hg, hA, hgA⟩ hs hlen) ?_
 rintro _ w3 ⟨i, bb, rfl, hk4, hi, hbef, haft, hbb⟩
 refine ⟨_, rfl, ?_⟩
 have hsz5 := Keep.size hk4
 replace hg := hg.k0 hk4
 replace hb1 := hb1.k0 hk4
 replace hA := hA.keep0 hk4
 replace hK0 := hK0.tn hk4
 refine On 9 [0, 6, 7, 8] <| Oe <| V_seq <| Vn [0, 6, 7, 8, 19] <| Vb (bb) (fun hc6 => ?_) (fun hc6 => ?_)
 ·
  rcases place_at cs i hs hi hbef haft with ⟨y, g1, g2, g3, g4, g5, g6, g7⟩ | ⟨g1, _⟩
  rotate_left
  · exact absurd hc6 (by rw [hbb]; split <;> simp_all)
  have hilt := (List.getElem?_eq_some_iff.1 g1).1
  refine V_region <| On 3 [6, 7, 8, 22] <| Lr 0 (.slice A cs.length cap) hg <| On 5 [6, 7, 23, 24] ?_
  obtain ⟨b7, o7, L7, T7, rfl, hat7⟩ := SlT.opn hA
  have hb7lt := hat7.blk.lt
  have hob8 := hltA b7 ⟨_, rfl, rfl⟩
  refine Oi (b := b7) (o := o7) (len := cs.length) (cap := cap) (j := i) (some 25) 150 (.tmp 23) (.tmp 24) 149 8 64 .i64 <| On 7 [6, 7, 26] <| La (o7 + i * 8 + 2) (Vt.cells y.v) 6 hat7.blk (At.sub hat7 (es_at g1) (by decide) rfl) (Vt.len _) <| Sg 0 (Vt.cells y.v) hb1 (Vt.len _) (Vt.one _) ?_
  intro w9 hb1_12 hk10 hz11
  replace hb1_12 : Blk w9 b1 (Vt.cells y.v) 23 := (by rwa [over_whole (by rw [Vt.len]; rfl)] at hb1_12)
  have hsz13 := Keep.size hk10
  replace hK0 := Keep.fr hK0 hk10
  refine Oer <| La 0 (Vt.cells y.v) 6 hb1_12 (take_all (Vt.len _)) (Vt.len _) <| On 2 [6, 28, 29] <| Sg 0 (Vt.cells y.v) hb1_12 (Vt.len _) (Vt.one _) ?_
  intro w14 hb1_17 hk15 hz16
  replace hb1_17 : Blk w14 b1 (Vt.cells y.v) 23 := (by rwa [over_whole rfl] at hb1_17)
  have hsz18 := Keep.size hk15
  replace hK0 := Keep.fr hK0 hk15
  refine Ose [(6, pt b1),(7, .bool bb)] <| V_ret ?_
  exact leave0 (.tuple #[.agg (Vt.cells y.v).toArray, .bool bb]) (.inl rfl) (res_agg_tmp (m := 6) rfl rfl rfl (by kernel_rfl) hb1_17 rfl) ⟨by rw [g5, hc6]; rfl, hK0⟩
 rcases place_at cs i hs hi hbef haft with ⟨y, g1, g2, _⟩ | ⟨g1, g2, g3, g4⟩
 · exact absurd hc6 (by rw [hbb, g1]; simp [g2])
 refine Vsk <| Vr <| La 0 [nt 0, .bool false, nt 0, nt 0, nt 0, nt 0] 6 hb1 rfl rfl <| On 2 [6, 28, 29] <| OI_set (m := 6) (kd := true) 23 (.tmp 6) (.tmp 28) 0 (.agg #[nt 0, .bool false, nt 0, nt 0, nt 0, nt 0]) [nt 0, .bool false, nt 0, nt 0, nt 0, nt 0] none (by kernel_rfl) (by kernel_rfl) (by kernel_rfl) hb1 (by kernel_rfl) (by kernel_rfl) (by kernel_rfl) (Nat.le_of_ble_eq_true (by kernel_rfl)) (by simp [Value.oneCell']) ?_
 intro w19 hb1_22 hk20 hz21
 replace hb1_22 : Blk w19 b1 [nt 0, .bool false, nt 0, nt 0, nt 0, nt 0] 23 := hb1_22
 have hsz23 := Keep.size hk20
 replace hK0 := Keep.fr hK0 hk20
 refine Ose [(6, pt b1),(7, .bool bb)] <| V_ret ?_
 exact leave0 (.tuple #[.agg [nt 0, .bool false, nt 0, nt 0, nt 0, nt 0].toArray, .bool bb]) (.inl rfl) (res_agg_tmp (m := 6) rfl rfl rfl (by kernel_rfl) hb1_22 rfl) ⟨by rw [g2, hc6]; rfl, hK0⟩
theorem Srt.del {cs : List Ci} (h : Srt cs) (a b : Int) : Srt (delC a b cs) ∧ (delC a b cs).length ≤ cs.length := by
  induction cs with
  | nil => exact ⟨List.Pairwise.nil, Nat.le_refl _⟩
  | cons x l ih =>
    have h := List.pairwise_cons.1 h
    simp only [delC]
    split
    · exact ⟨h.2, by simp⟩
    · obtain ⟨h1, h2⟩ := ih h.2
      refine ⟨List.pairwise_cons.2 ⟨fun y hy => h.1 y ?_, h1⟩, by simpa using h2⟩
      have hsub : ∀ l : List Ci, ∀ y ∈ delC a b l, y ∈ l := by
        intro l
        induction l with
        | nil => intro y hy; exact hy
        | cons z l ih =>
          intro y hy
          simp only [delC] at hy
          split at hy
          · exact List.mem_cons_of_mem _ hy
          · rcases List.mem_cons.1 hy with rfl | hy
            · exact List.mem_cons_self ..
            · exact List.mem_cons_of_mem _ (ih y hy)
      exact hsub l y hy
theorem del_spec (D : Nat → Prop) (g : Nat) (cs : List Ci) (a b : Int) (w : World) (h : Gr D w g cs) (hD : ∀ k, w.heap.size ≤ k → D k) : Calls Tryz.prog 64 #[pt g, nt a, nt b] w fun e w' => e = .returned (.bool (getC a b cs).isSome) ∧ Gr D w' g (delC a b cs) ∧ Keep (only g) w w' := by
 obtain ⟨hs, hlen, A, cap, h, hDA⟩ := h
 have hgA := h.off
 have hg := h.blk
 have hA := h.sl
 have hglt := hg.lt
 have hltA := SlT.lt hA
 have hK0 : Keep (only g) w w := Keep.refl _ _
 refine eV ?_
 refine Vr <| On 1 [0, 1, 2] <| Oe <| V_seq <| Vn [0, 1, 2, 10] <| Vf <| Vsk <| Vr <| On 3 [0, 12, 13, 14] <| Kg (place_spec g cap A cs a b _ ⟨hg, hA, hgA⟩ hs hlen) ?_
 rintro _ w3 ⟨i, bb, rfl, hk4, hi, hbef, haft, hbb⟩
 refine ⟨_, rfl, ?_⟩
 have hsz5 := Keep.size hk4
 replace hg := hg.k0 hk4
 replace hA := hA.keep0 hk4
 replace hK0 := hK0.tn hk4
 refine On 9 [0, 7, 8] <| Oe <| V_seq <| Vn [0, 7, 8, 18] <| Vb (bb) (fun hc6 => ?_) (fun hc6 => ?_)
 ·
  rcases place_at cs i hs hi hbef haft with ⟨y, g1, g2, g3, g4, g5, g6, g7⟩ | ⟨g1, _⟩
  rotate_left
  · exact absurd hc6 (by rw [hbb]; split <;> simp_all)
  have hilt := (List.getElem?_eq_some_iff.1 g1).1
  refine V_region <| On 4 [7, 8, 19, 22] <| Lr 0 (.slice A cs.length cap) hg <| Kg (clone_spec A cap cs _ hA (by omega)) ?_
  rintro _ w7 ⟨A9, cap9, rfl, h9, hk8, hown9⟩
  refine ⟨_, rfl, ?_⟩
  have hsz9 := Keep.size hk8
  replace hg := hg.k0 hk8
  replace hK0 := hK0.tn hk8
  have hlt9 := SlT.lt h9
  have hw10 : i64.wrap ((i : Int) + 1) = ((i + 1 : Nat) : Int) := wrp
  refine On 9 [8, 19, 24, 25, 27] <| Oq (u := nt (i64.wrap ((i : Int) + 1))) (v := nt ((i + 1 : Nat) : Int)) 27 (by rw [hw10]) ?_
  obtain ⟨b13, o13, L13, T13, rfl, hat13⟩ := SlT.opn h9
  have hb13lt := hat13.blk.lt
  have hbge := hown9 b13 ⟨_, rfl, rfl⟩
  refine Ok (kl 97 #[(.tmp 24),(.tmp 25),(.tmp 27)] #[150, 3, 3]) 97 #[sl_ b13 o13 cs.length cap9, nt (i : Int), nt ((i + 1 : Nat) : Int)] (some 28) (delete_spec b13 o13 cap9 i _ _ cs _ hat13 hilt (by omega)) ?_
  rintro _ w11 ⟨rfl, h12, hk12⟩
  refine ⟨_, rfl, ?_⟩
  have hsz14 := Keep.size hk12
  replace hg := hg.k1 hk12
  replace hK0 := Keep.fr hK0 hk12
  refine On 12 [8, 28, 30] <| St_ 0 (sl_ b13 o13 (cs.length - 1) cap9) hg ?_
  intro w15 hg_18 hk16 hz17
  replace hg_18 : Blk w15 g [sl_ b13 o13 (cs.length - 1) cap9] 152 := hg_18
  have hsz19 := Keep.size hk16
  replace h12 := h12.keep hk16 (fun k hk hs => by have hs : k = g := hs; have h2 := inA_some hk; omega)
  replace hK0 := Keep.fr hK0 hk16
  refine Oer <| Oen [6] <| V_ret ?_
  have hl12 : (delC a b cs).length = cs.length - 1 := by rw [← g7]; simp; omega
  rw [g5]
  exact Xr (.bool bb) ⟨by rw [hc6]; rfl, ⟨(hs.del a b).1, by rw [hl12]; omega, _, cap9, ⟨by rw [hl12]; exact hg_18, by rw [← g7]; exact h12, fun h => by have := inA_some h; omega⟩, fun k hk => hD k (by have := inA_some hk; omega)⟩, hK0⟩
 rcases place_at cs i hs hi hbef haft with ⟨y, g1, g2, _⟩ | ⟨g1, g2, g3, g4⟩
 · exact absurd hc6 (by rw [hbb, g1]; simp [g2])
 refine Vsk <| Vn [6] <| V_ret ?_
 rw [g4, g2]
 exact Xr (.bool bb) ⟨by rw [hc6]; rfl, ⟨hs, hlen, A, cap, ⟨hg, hA, hgA⟩, hDA⟩, hK0⟩
end Go.Al.GV
namespace Go.Al.GV
open Go Go.RowKit Go.Proofs
theorem setC_mem {a b : Int} {v : Vt} {y : Ci} : ∀ {cs : List Ci}, y ∈ setC a b v cs → (y.a = a ∧ y.b = b) ∨ y ∈ cs
  | [], h => by simp only [setC, List.mem_singleton] at h; subst h; exact .inl ⟨rfl, rfl⟩
  | x :: l, h => by
    simp only [setC] at h
    split at h
    · rcases List.mem_cons.1 h with rfl | h
      · exact .inl ⟨rfl, rfl⟩
      · exact .inr (List.mem_cons_of_mem _ h)
    · split at h
      · rcases List.mem_cons.1 h with rfl | h
        · exact .inr (List.mem_cons_self ..)
        · exact (setC_mem h).imp id (List.mem_cons_of_mem _)
      · rcases List.mem_cons.1 h with rfl | h
        · exact .inl ⟨rfl, rfl⟩
        · exact .inr h
theorem Srt.set {a b : Int} {v : Vt} : ∀ {cs : List Ci}, Srt cs → Srt (setC a b v cs) ∧ (setC a b v cs).length ≤ cs.length + 1
  | [], _ => ⟨by simp [setC, Srt], by simp [setC]⟩
  | x :: l, h => by
    have h := List.pairwise_cons.1 h
    simp only [setC]
    split
    · rename_i he
      exact ⟨List.pairwise_cons.2 ⟨fun y hy => by have := h.1 y hy; rw [he.1, he.2] at this; exact this, h.2⟩, by simp⟩
    · rename_i he
      split
      · rename_i hlt
        obtain ⟨h1, h2⟩ := Srt.set (a := a) (b := b) (v := v) h.2
        refine ⟨List.pairwise_cons.2 ⟨fun y hy => ?_, h1⟩, by simpa using h2⟩
        rcases setC_mem hy with ⟨e1, e2⟩ | hy
        · rw [e1, e2]; exact hlt
        · exact h.1 y hy
      · rename_i hnl
        have hgt : ltC a b x.a x.b := by unfold ltC at *; omega
        refine ⟨List.pairwise_cons.2 ⟨fun y hy => ?_, List.pairwise_cons.2 h⟩, by simp⟩
        rcases List.mem_cons.1 hy with rfl | hy
        · exact hgt
        · exact ltC_trans hgt (h.1 y hy)
theorem set_spec (D : Nat → Prop) (g : Nat) (cs : List Ci) (a b : Int) (v : Vt) (w : World) (h : Gr D w g cs) (hD : ∀ k, w.heap.size ≤ k → D k) (hmax : cs.length < 100000) : Calls Tryz.prog 59 #[pt g, nt a, nt b, .agg (Vt.cells v).toArray] w fun e w' => e = .returned (.tuple #[]) ∧ Gr D w' g (setC a b v cs) ∧ Keep (only g) w w' := by
 obtain ⟨hs, hlen, A, cap, h, hDA⟩ := h
 have hgA := h.off
 have hg := h.blk
 have hA := h.sl
 have hglt := hg.lt
 have hltA := SlT.lt hA
 have hK0 : Keep (only g) w w := Keep.refl _ _
 refine eV ?_
 refine Vr <| OI_box 23 (.tmp 3) (.agg (Vt.cells v).toArray) (Vt.cells v) (some 7) (by kernel_rfl) (by kernel_rfl) rfl ?_
 intro b1 w1 e1 hb1 k1 z1
 have hsz2 := Keep.size k1
 replace hg := hg.k0 k1
 replace hA := hA.keep0 k1
 replace hK0 := hK0.tn k1
 have hb1lt := hb1.lt
 refine Oe <| V_seq <| Vn [0, 1, 2, 7, 12] <| Vf <| Vsk <| Vr <| On 3 [0, 1, 2, 7, 14, 15, 16] <| Kg (place_spec g cap A cs a b _ ⟨hg, hA, hgA⟩ hs hlen) ?_
 rintro _ w7 ⟨i, bb, rfl, hk8, hi, hbef, haft, hbb⟩
 refine ⟨_, rfl, ?_⟩
 have hsz9 := Keep.size hk8
 replace hg := hg.k0 hk8
 replace hA := hA.keep0 hk8
 replace hK0 := hK0.tn hk8
 refine On 9 [0, 1, 2, 7, 8, 9] <| Oer <| On 3 [0, 1, 2, 7, 8, 9, 22] <| Lr 0 (.slice A cs.length cap) hg <| Kg (clone_spec A cap cs _ hA (by omega)) ?_
 rintro _ w12 ⟨A9, cap9, rfl, h9, hk13, hown9⟩
 refine ⟨_, rfl, ?_⟩
 have hsz14 := Keep.size hk13
 replace hg := hg.k0 hk13
 replace hb1 := hb1.k0 (hk8.tr hk13)
 replace hK0 := hK0.tn hk13
 have hlt9 := SlT.lt h9
 refine On 6 [0, 1, 2, 7, 8, 9, 10] <| Oe <| V_seq <| Vn [0, 1, 2, 7, 8, 10, 25] <| Vb (bb) (fun hc15 => ?_) (fun hc15 => ?_)
 ·
  rcases place_at cs i hs hi hbef haft with ⟨y, g1, g2, g3, g4, g5, g6, g7⟩ | ⟨g1, _⟩
  rotate_left
  · exact absurd hc15 (by rw [hbb]; split <;> simp_all)
  have hilt := (List.getElem?_eq_some_iff.1 g1).1
  refine V_region <| On 2 [0, 7, 10, 26, 27] <| La 0 (Vt.cells v) 6 hb1 (take_all (Vt.len _)) (Vt.len _) ?_
  obtain ⟨b16, o16, L16, T16, rfl, hat16⟩ := SlT.opn h9
  have hb16lt := hat16.blk.lt
  refine Oi (b := b16) (o := o16) (len := cs.length) (cap := cap9) (j := i) (some 29) 150 (.tmp 26) (.tmp 27) 149 8 64 .i64 <| On 5 [0, 10, 28, 30] <| OI_set (m := 6) (kd := true) 23 (.tmp 30) (.tmp 28) (o16 + i * 8 + 2) (.agg (Vt.cells v).toArray) (Vt.cells v) none (by kernel_rfl) (by kernel_rfl) (by kernel_rfl) (At.blk hat16) (by kernel_rfl) (by kernel_rfl) rfl (by have h1 := At.room hat16; have h2 := At.le hat16; rw [List.length_map] at h2; omega) (Vt.one v) ?_
  intro w8 hn8 hk8 hz8
  have hat8 := At.setN (y := (⟨a, b, v⟩ : Ci)) (k := 2) hat16 g1 (by show 2 + 6 ≤ 8; omega) (by simp [Ci.cells, over, g3, g4, Vt.cells]) hn8
  have hbge := hown9 b16 ⟨_, rfl, rfl⟩
  have hsz17 := Keep.size hk8
  replace hg := hg.k1 hk8
  replace hK0 := Keep.fr hK0 hk8
  refine Oe <| V_region <| Os 4 [(41, sl_ b16 o16 cs.length cap9),(43, pt g)] <| St_ 0 (sl_ b16 o16 cs.length cap9) hg ?_
  intro w18 hg_21 hk19 hz20
  replace hg_21 : Blk w18 g [sl_ b16 o16 cs.length cap9] 152 := hg_21
  have hsz22 := Keep.size hk19
  replace hat8 := hat8.keep hk19 (by show ¬ (_ = _); omega)
  replace hK0 := Keep.fr hK0 hk19
  refine OI_end rfl ?_
  obtain ⟨hs1, hs2⟩ := Srt.set (a := a) (b := b) (v := v) hs
  have hl : (setC a b v cs).length = cs.length := by rw [← g6 v]; simp
  exact X_end _ rfl ⟨rfl, ⟨hs1, by omega, _, cap9, ⟨by rw [hl]; exact hg_21, by rw [← g6 v]; exact At.slt hat8, fun h => by have := inA_some h; omega⟩, fun k hk => hD k (by have := inA_some hk; omega)⟩, hK0⟩
 rcases place_at cs i hs hi hbef haft with ⟨y, g1, g2, _⟩ | ⟨g1, g2, g3, g4⟩
 · exact absurd hc15 (by rw [hbb, g1]; simp [g2])
 refine V_region <| On 5 [0, 7, 31, 32, 35] <| La 0 (Vt.cells v) 6 hb1 (take_all (Vt.len _)) (Vt.len _) <| On 7 [0, 31, 32, 37] <| OI_slit (E := 149) (zv := .agg #[nt 0, nt 0, nt 0, .bool false, nt 0, nt 0, nt 0, nt 0]) (sz := 8) (by_ := 64) 150 1 #[(0, (Operand.tmp 37))] [.agg #[nt a, nt b, nt v.kind, .bool v.aye, nt v.level, nt v.a, nt v.n, nt v.s]] [nt a, nt b, nt v.kind, .bool v.aye, nt v.level, nt v.a, nt v.n, nt v.s] (some 38) (by kernel_rfl) (by kernel_rfl) (by kernel_rfl) (by omega) rfl (by omega) (by intro v hv; simp only [List.mem_cons, List.not_mem_nil, or_false] at hv; rcases hv with rfl <;> rfl) (by kernel_rfl) rfl ?_
 intro b23 w23 e23 hb23 k23 z23
 have hsz24 := Keep.size k23
 replace hg := hg.k0 k23
 replace h9 := h9.keep0 k23
 replace hK0 := hK0.tn k23
 have hb23lt := hb23.lt
 have hne9 : ¬ inA A9 b23 := fun hs => by have h1 := hlt9 _ hs; have h2 := hown9 _ hs; omega
 refine Kg (insert_spec A9 cap9 b23 i cs ⟨a, b, v⟩ _ h9 hb23 hne9 hi (by omega)) ?_
 rintro _ w25 ⟨A10, cap10, rfl, h10, hk26, hown10⟩
 refine ⟨_, rfl, ?_⟩
 have hsz27 := Keep.size hk26
 replace hg := hg.keep hk26 (fun hs => by have h1 := hlt9 _ hs; have h2 := hown9 _ hs; omega)
 replace hK0 := Keep.fresh hK0 hk26 (by intro i hi hs; exfalso; have h2 := hown9 i hs; omega)
 have hgA10 : ¬ inA A10 g := fun hs => by rcases hown10 _ hs with h | h; (have h2 := hown9 _ h; omega); omega
 refine On 10 [0, 10] <| Oe <| V_region <| Os 4 [(41, .slice A10 (cs.length + 1) cap10),(43, pt g)] <| St_ 0 (.slice A10 (cs.length + 1) cap10) hg ?_
 intro w28 hg_31 hk29 hz30
 replace hg_31 : Blk w28 g [.slice A10 (cs.length + 1) cap10] 152 := hg_31
 have hsz32 := Keep.size hk29
 replace h10 := h10.keep hk29 (fun k hk hs => by have hs : k = g := hs; subst hs; exact hgA10 hk)
 replace hK0 := Keep.fr hK0 hk29
 refine OI_end rfl ?_
 obtain ⟨hs1, hs2⟩ := Srt.set (a := a) (b := b) (v := v) hs
 rw [g3 v] at h10
 have hl : (setC a b v cs).length = cs.length + 1 := by rw [← g3 v]; simp; omega
 exact X_end _ rfl ⟨rfl, ⟨hs1, by omega, A10, cap10, ⟨by rw [hl]; exact hg_31, h10, hgA10⟩, fun k hk => hD k (by rcases hown10 _ hk with h | h; (have h2 := hown9 _ h; omega); omega)⟩, hK0⟩
end Go.Al.GV
namespace Go.Al.GV
open Go Go.RowKit Go.Proofs
def encC (cs : List Ci) (k : Nat) : Array Value := match cs[k]? with | some c => #[.agg #[nt c.a, nt c.b], .agg (Vt.cells c.v).toArray] | none => #[undef, undef]
theorem encC_at {cs : List Ci} {k : Nat} {c : Ci} (h : cs[k]? = some c) : encC cs k = #[.agg #[nt c.a, nt c.b], .agg (Vt.cells c.v).toArray] := by unfold encC; rw [h]
theorem encC_size (cs : List Ci) (k : Nat) : (encC cs k).size = 2 := by unfold encC; split <;> rfl
theorem cells1_iter (c g cap : Nat) (A : Option Addr) (cs : List Ci) (hn : cs.length ≤ 1000000) : Iter Tryz.prog 145 #[pt c] cs.length (encC cs) (fun W => Blk W c [pt g] 91 ∧ GrAt W g A cap cs) (fun W => SlT W 8 Ci.cells A cap cs) := by
 intro l J Jx w hPre hJ hJx hY hOk h0
 obtain ⟨hc, h⟩ := hPre
 have hg := h.blk
 have hA := h.sl
 have hglt := hg.lt
 have hclt := hc.lt
 show Calls Tryz.prog 145 #[.func (.yield l) #[] #[], pt c] w _
 have hK0 := Keep.refl none_ w
 refine eV ?_
 refine V_seq <| Vr <| Lr 0 (pt g) hc <| Oen [0, 1, 6] <| Vf <| Vsk <| Vr <| Lr 0 (pt g) hc <| On 3 [0, 9] <| Lr 0 (.slice A cs.length cap) hg <| Oen [0, 10, 11, 12] <| V_block ?_
 have hj0 := hJ 0 _ _ h0 (Keep.ofNone hK0)
 refine Vp [(0, .func (.yield l) #[] #[]),(10, .slice A cs.length cap),(11, nt (cs.length : Int)),(12, nt 0)] <| V_loop (fun k wI e => ∃ i : Nat, (k + i = cs.length) ∧ (J i wI) ∧ e = [(0, .func (.yield l) #[] #[]),(10, .slice A cs.length cap),(11, nt (cs.length : Int)),(12, nt (i : Int))]) cs.length ⟨0, rfl, hj0, rfl⟩ ?_
 rintro k2 w1 _ ⟨i, hki, hj, rfl⟩
 have hA := hOk _ _ hj
 have hkh : Keep none_ w1 w1 := Keep.refl _ _
 have hzhkh := Keep.size hkh
 refine Vs [(0, .func (.yield l) #[] #[]),(10, .slice A cs.length cap),(11, nt (cs.length : Int)),(12, nt (i : Int)),(13, .bool (decide ((i : Int) < (cs.length : Int))))] <| V_seq <| Vi ((i : Int) < (cs.length : Int)) (fun hc4 => ?_) (fun hc4 => ?_)
 ·
  refine Vsk <| V_seq <| V_block <| Vr ?_
  obtain ⟨b5, o5, L5, T5, rfl, hat5⟩ := SlT.opn hA
  have hb5lt := hat5.blk.lt
  refine Oi (b := b5) (o := o5) (len := cs.length) (cap := cap) (j := i) (some 14) 150 (.tmp 10) (.tmp 12) 149 8 64 .i64 ?_
  obtain ⟨x6, hx7⟩ := exAt (xs := cs) (i := i)
  refine La (o5 + i * 8) (Ci.cells x6) 8 hat5.blk (At.elem' hat5 (es_at hx7)) (At.len hat5 (es_at hx7)) <| Alc_ 149 (.agg #[nt 0, nt 0, nt 0, .bool false, nt 0, nt 0, nt 0, nt 0]) [nt 0, nt 0, nt 0, .bool false, nt 0, nt 0, nt 0, nt 0] ?_
  intro b8 w8 e8 hb8 k8 z8
  have hsz9 := Keep.size k8
  replace hkh := hkh.tn k8
  have hb8lt := hb8.lt
  refine Sg 0 (Ci.cells x6) hb8 (Ci.len _) (Ci.one _) ?_
  intro w10 hb8_13 hk11 hz12
  replace hb8_13 : Blk w10 b8 (Ci.cells x6) 149 := (by rwa [over_whole (by rw [Ci.len]; rfl)] at hb8_13)
  have hsz14 := Keep.size hk11
  replace hkh := Keep.fr hkh hk11
  refine Oer <| On 2 [0, 4, 10, 11, 12, 16, 17] <| La 0 [nt x6.a, nt x6.b] 2 hb8_13 rfl rfl <| Os 4 [(0, .func (.yield l) #[] #[]),(10, sl_ b5 o5 cs.length cap),(11, nt (cs.length : Int)),(12, nt (i : Int)),(16, .func (.yield l) #[] #[]),(18, .agg #[nt x6.a, nt x6.b]),(19, po_ b8 2)] <| Oa 23 (.tmp 19) 2 [nt x6.v.kind, .bool x6.v.aye, nt x6.v.level, nt x6.v.a, nt x6.v.n, nt x6.v.s] (some 20) 6 hb8_13 rfl rfl <| OI_yield { callee := (Callee.value (Operand.tmp 16)), args := #[(Operand.tmp 18),(Operand.tmp 20)], argTypes := #[147, 23] } l #[.agg #[nt x6.a, nt x6.b], .agg #[nt x6.v.kind, .bool x6.v.aye, nt x6.v.level, nt x6.v.a, nt x6.v.n, nt x6.v.s]] (some 21) (by kernel_rfl) (by kernel_rfl) (by have hy := hY i _ (by omega) (hJ i _ _ hj (Keep.ofNone hkh)); rw [encC_at hx7] at hy; exact hy) ?_
  rintro _ w15 (⟨rfl, hj16⟩ | ⟨rfl, hj16⟩)
  ·
   refine ⟨_, rfl, ?_⟩
   refine Oen [0, 10, 11, 12, 22] <| Vf <| V_skip <| X_block <| X_then <| V_region ?_
   have hw17 : i64.wrap ((i : Int) + 1) = ((i + 1 : Nat) : Int) := wrp
   refine On 1 [0, 10, 11, 23] <| Oq (u := nt (i64.wrap ((i : Int) + 1))) (v := nt ((i + 1 : Nat) : Int)) 23 (by rw [hw17]) <| Os 2 [(0, .func (.yield l) #[] #[]),(10, sl_ b5 o5 cs.length cap),(11, nt (cs.length : Int)),(12, nt ((i + 1 : Nat) : Int))] <| OI_end rfl ?_
   exact V_again (k2 - 1) (by omega) [(0, .func (.yield l) #[] #[]),(10, sl_ b5 o5 cs.length cap),(11, nt (cs.length : Int)),(12, nt ((i + 1 : Nat) : Int))] rfl ⟨i + 1, by omega, hj16, rfl⟩
  ·
   refine ⟨_, rfl, ?_⟩
   refine Ose [(0, .func (.yield l) #[] #[]),(10, sl_ b5 o5 cs.length cap),(11, nt (cs.length : Int)),(12, nt (i : Int)),(22, .bool true)] <| Vo <| V_ret <| X_ret_block <| X_ret_then <| X_ret_then <| X_ret_block ?_
   exact X_return _ rfl ⟨⟨_, rfl⟩, .inr ⟨i + 1, by omega, hj16⟩⟩
 refine V_exit <| X_exit_then <| X_exit_then <| X_exit_here ?_
 have he : i = cs.length := by omega
 rw [he] at hj
 exact X_end _ rfl ⟨⟨_, rfl⟩, .inl (hJ _ _ _ hj (Keep.ofNone hkh))⟩
theorem cellsfn_spec (v : Value) (hv : v.cells = [v].toArray) (w : World) : Calls Tryz.prog 136 #[v] w fun e w' => ∃ c, e = .returned (.func (.func 145) #[] #[pt c]) ∧ Blk w' c [v] 91 ∧ Keep none_ w w' ∧ w.heap.size ≤ c := by
 have hK0 := Keep.refl none_ w
 refine eV ?_
 refine Vr <| OI_box 91 (.tmp 0) v [v] (some 1) (by kernel_rfl) (by kernel_rfl) hv ?_
 intro b1 w1 e1 hb1 k1 z1
 have hsz2 := Keep.size k1
 replace hK0 := hK0.tn k1
 have hb1lt := hb1.lt
 refine On 2 [1] <| Oer <| Ose [(2, .func (.func 145) #[] #[pt b1])] <| V_ret ?_
 exact X_return _ rfl ⟨_, rfl, hb1, hK0, by omega⟩
end Go.Al.GV
namespace Go.Al.GV
open Go Go.RowKit Go.Proofs
variable {A : Option Addr} {W W' : World} {cap k : Nat} {cs : List Ci} {n : Int}
def rowL (n : Int) (cs : List Ci) : List (Int × Vt) := (cs.filter fun c => c.a == n).map fun c => (c.b, c.v)
def enc2 (xs : List (Int × Vt)) (k : Nat) : Array Value := match xs[k]? with | some p => #[nt p.1, .agg (Vt.cells p.2).toArray] | none => #[undef, undef]
theorem enc2_at {xs : List (Int × Vt)} {p : Int × Vt} (h : xs[k]? = some p) : enc2 xs k = #[nt p.1, .agg (Vt.cells p.2).toArray] := by unfold enc2; rw [h]
theorem enc2_size (xs : List (Int × Vt)) (k : Nat) : (enc2 xs k).size = 2 := by unfold enc2; split <;> rfl
theorem fm_step {α β : Type} (p : α → Bool) (f : α → β) {cs : List α} {c : α} (h : cs[k]? = some c) : ((cs.take (k + 1)).filter p).map f = if p c then ((cs.take k).filter p).map f ++ [f c] else ((cs.take k).filter p).map f := by
  obtain ⟨h1, rfl⟩ := List.getElem?_eq_some_iff.1 h
  rw [List.take_succ_eq_append_getElem h1, List.filter_append, List.map_append]
  by_cases hp : p cs[k] = true <;> simp [hp]
theorem fm_at {α β : Type} (p : α → Bool) (f : α → β) {cs : List α} {c : α} (h : cs[k]? = some c) (hp : p c = true) : (((cs.filter p).map f)[(((cs.take k).filter p).map f).length]? = some (f c)) ∧ (((cs.take k).filter p).map f).length < ((cs.filter p).map f).length := by
  have h2 := fm_step p f h
  rw [if_pos hp] at h2
  have h3 : (cs.filter p).map f = (((cs.take k).filter p).map f ++ [f c]) ++ ((cs.drop (k + 1)).filter p).map f := by
    rw [← h2, ← List.map_append, ← List.filter_append, List.take_append_drop]
  rw [h3]
  exact ⟨by simp, by simp⟩
theorem rowL_step {c : Ci} (h : cs[k]? = some c) : rowL n (cs.take (k + 1)) = if c.a = n then rowL n (cs.take k) ++ [(c.b, c.v)] else rowL n (cs.take k) := by
  have := fm_step (fun c : Ci => c.a == n) (fun c => (c.b, c.v)) h
  simpa [rowL] using this
theorem rowL_at {c : Ci} (h : cs[k]? = some c) (hc : c.a = n) : (rowL n cs)[(rowL n (cs.take k)).length]? = some (c.b, c.v) ∧ (rowL n (cs.take k)).length < (rowL n cs).length := fm_at (fun c : Ci => c.a == n) (fun c => (c.b, c.v)) h (by simp [hc])
structure AlOk (bs bn : Nat) (s n : Int) (A : Option Addr) (cap : Nat) (cs : List Ci) (W : World) : Prop where
  side : Blk W bs [nt s] 3
  num : Blk W bn [nt n] 3
  sl : SlT W 8 Ci.cells A cap cs
theorem AlOk.quiet {N bs bn : Nat} {s : Int} (h : AlOk bs bn s n A cap cs W) (k : Keep (lb N W) W W') : AlOk bs bn s n A cap cs W' := ⟨h.1.quiet k, h.2.quiet k, h.3.quiet k⟩
theorem AlOk.keep0 {bs bn : Nat} {s : Int} (h : AlOk bs bn s n A cap cs W) (k : Keep none_ W W') : AlOk bs bn s n A cap cs W' := ⟨h.1.keep k id, h.2.keep k id, h.3.keep0 k⟩
theorem GrAt.quiet {N g : Nat} (h : GrAt W g A cap cs) (k : Keep (lb N W) W W') : GrAt W' g A cap cs := ⟨h.blk.quiet k, h.sl.quiet k, h.off⟩
theorem GrAt.keep0 {g : Nat} (h : GrAt W g A cap cs) (k : Keep none_ W W') : GrAt W' g A cap cs := ⟨h.blk.keep k id, h.sl.keep0 k, h.off⟩
theorem along1_iter0 (bg bs bn g cap : Nat) (A : Option Addr) (cs : List Ci) (n : Int) (hn : cs.length ≤ 1000000) : Iter2 Tryz.prog 135 #[pt bg, pt bs, pt bn] (rowL n cs).length (enc2 (rowL n cs)) (fun W => Blk W bg [pt g] 91 ∧ GrAt W g A cap cs ∧ AlOk bs bn 0 n A cap cs W) (AlOk bs bn 0 n A cap cs) := by
 intro l J Jx w hPre hJ hJx hY hOk h0
 obtain ⟨hbg, h, ho⟩ := hPre
 have hbs := ho.side
 have hbn := ho.num
 have hg := h.blk
 have hA := h.sl
 have hglt := hg.lt
 have hgA := h.off
 have hbslt := hbs.lt
 have hbnlt := hbn.lt
 have hbglt := hbg.lt
 show Calls Tryz.prog 135 #[.func (.yield l) #[] #[], pt bg, pt bs, pt bn] w _
 have hK0 := Keep.refl none_ w
 refine enterM Tryz.func135 rfl [.func (.yield l) #[] #[], pt bg, pt bs, pt bn] 26 rfl rfl rfl ?_
 refine Vp [(0, .func (.yield l) #[] #[]),(1, pt bg),(2, pt bs),(3, pt bn)] <| Vr <| Bx 156 [.func (.yield l) #[] #[]] ?_
 intro b1 w1 e1 hb1 k1 z1
 have hsz2 := Keep.size k1
 replace hbg := hbg.k0 k1
 replace hK0 := hK0.tn k1
 have hb1lt := hb1.lt
 refine Oer <| Lr 0 (pt g) hbg <| Ok (kl 136 #[(.tmp 7)] #[91]) 136 #[pt g] (some 8) (cellsfn_spec _ rfl _) ?_
 rintro _ w3 ⟨c5, rfl, hc5, hk4, hgec5⟩
 refine ⟨_, rfl, ?_⟩
 have hsz6 := Keep.size hk4
 replace hbs := hbs.k0 (k1.tr hk4)
 replace hbn := hbn.k0 (k1.tr hk4)
 replace hg := hg.k0 (k1.tr hk4)
 replace hb1 := hb1.k0 hk4
 replace hA := hA.keep0 (k1.tr hk4)
 replace hK0 := hK0.tn hk4
 have hc5lt := hc5.lt
 refine Oe <| V_block ?_
 have hb4ge : w.heap.size ≤ b1 := by omega
 refine Vp [(2, pt bs),(3, pt bn),(4, pt b1),(8, .func (.func 145) #[] #[pt c5])] ?_
 have hN0 : w.heap.size ≤ w3.heap.size := Keep.size hK0
 refine V_range2 (gf := 145) (caps := #[pt c5]) (m := cs.length) (by kernel_rfl) (by kernel_rfl) (by kernel_rfl) ((cells1_iter c5 g cap A cs hn).to2) (⟨hc5, ⟨hg, hA, hgA⟩⟩) (fun W W' h k => ⟨h.1.quiet k, h.2.quiet k⟩) (encC_size cs) (fun M1 k W => (Blk W bs [nt 0] 3) ∧ (Blk W bn [nt n] 3) ∧ (Blk W b1 [.func (.yield l) #[] #[]] 156) ∧ (J M1 (rowL n (cs.take k)).length W)) (fun M1 c k W => (c = .ret ∧ ∃ q : Nat, (Jx M1 q W) ∧ (q ≤ (rowL n cs).length))) (fun M1 k W W' h hk => by obtain ⟨jbs, jbn, jb1, jj⟩ := h; exact ⟨jbs.quiet hk, jbn.quiet hk, jb1.quiet hk, (((hJ _ _).mono (by omega)) _ _ jj hk)⟩) (fun M1 c k W W' h hk => by obtain ⟨hc, q, xx, hq⟩ := h; exact ⟨hc, q, (((hJx _ _).mono (by omega)) _ _ xx hk), hq⟩) (fun M1 hM1 => ⟨hbs, hbn, hb1, hJ _ _ _ _ (h0 _ (by omega)) (Keep.ofNone hK0)⟩) (fun M1 k W h => by obtain ⟨jbs, jbn, jb1, jj⟩ := h; exact (hOk _ _ _ jj).sl) ?_ ?_ ?_
 ·
  intro lp D M1 k W hD hl hM hMW hkm ⟨jbs, jbn, jb1, jj⟩ ⟨rr, hrr⟩ hDD
  have hbslt := jbs.lt
  have hbnlt := jbn.lt
  have hb1lt := jb1.lt
  obtain ⟨x, hx⟩ : ∃ x, cs[k]? = some x := ⟨_, List.getElem?_eq_getElem (by omega)⟩
  rw [encC_at hx]
  refine Vp [(2, pt bs),(3, pt bn),(4, pt b1),(9, .agg #[nt x.a, nt x.b]),(10, .agg (Vt.cells x.v).toArray)] ?_
  have hfen : Keep (fen w3.heap.size M1) W W := Keep.refl _ _
  have hzhfen := Keep.size hfen
  have hkj : Keep none_ W W := Keep.refl _ _
  have hzhkj := Keep.size hkj
  refine Vr <| OI_alloc 147 (.agg #[nt 0, nt 0]) [nt 0, nt 0] (some 5) (by kernel_rfl) (by kernel_rfl) (by kernel_rfl) ?_
  intro b7 w7 e7 hb7 k7 z7
  have hsz8 := Keep.size k7
  replace jbs := jbs.k0 k7
  replace jbn := jbn.k0 k7
  replace jb1 := jb1.k0 k7
  replace hfen := hfen.tn k7
  replace hkj := hkj.tn k7
  have hb7lt := hb7.lt
  refine OI_set (m := 2) (kd := true) 147 (.tmp 5) (.tmp 9) 0 (.agg #[nt x.a, nt x.b]) [nt x.a, nt x.b] none (by kernel_rfl) (by kernel_rfl) (by kernel_rfl) hb7 (by kernel_rfl) (by kernel_rfl) (by kernel_rfl) (Nat.le_of_ble_eq_true (by kernel_rfl)) (by simp [Value.oneCell']) ?_
  intro w9 hb7_12 hk10 hz11
  replace hb7_12 : Blk w9 b7 [nt x.a, nt x.b] 147 := hb7_12
  have hsz13 := Keep.size hk10
  replace jbs := jbs.k1 hk10
  replace jbn := jbn.k1 hk10
  replace jb1 := jb1.k1 hk10
  replace hfen := Keep.fresh hfen hk10 (by intro i hi hs; have hs2 : i = b7 := hs; show _ ∨ _; omega)
  replace hkj := Keep.fr hkj hk10
  refine Oe <| V_region <| OI_alloc 23 (.agg #[nt 0, .bool false, nt 0, nt 0, nt 0, nt 0]) [nt 0, .bool false, nt 0, nt 0, nt 0, nt 0] (some 6) (by kernel_rfl) (by kernel_rfl) (by kernel_rfl) ?_
  intro b14 w14 e14 hb14 k14 z14
  have hsz15 := Keep.size k14
  replace jbs := jbs.k0 k14
  replace jbn := jbn.k0 k14
  replace jb1 := jb1.k0 k14
  replace hb7_12 := hb7_12.k0 k14
  replace hfen := hfen.tn k14
  replace hkj := hkj.tn k14
  have hb14lt := hb14.lt
  refine Sg 0 (Vt.cells x.v) hb14 (Vt.len _) (Vt.one _) ?_
  intro w16 hb14_19 hk17 hz18
  replace hb14_19 : Blk w16 b14 (Vt.cells x.v) 23 := (by rwa [over_whole (by rw [Vt.len]; rfl)] at hb14_19)
  have hsz20 := Keep.size hk17
  replace jbs := jbs.k1 hk17
  replace jbn := jbn.k1 hk17
  replace jb1 := jb1.k1 hk17
  replace hb7_12 := hb7_12.k1 hk17
  replace hfen := Keep.fresh hfen hk17 (by intro i hi hs; have hs2 : i = b14 := hs; show _ ∨ _; omega)
  replace hkj := Keep.fr hkj hk17
  refine OI_end rfl <| X_begin2 hfen ?_
  intro W2 hk2 ⟨r2, hr2⟩ hD2
  have hsz21 := Keep.size hk2
  replace jbs := Blk.quiet jbs hk2
  replace jbn := Blk.quiet jbn hk2
  replace jb1 := Blk.quiet jb1 hk2
  replace hb7_12 := Blk.quiet hb7_12 hk2
  replace hb14_19 := Blk.quiet hb14_19 hk2
  replace jj := hJ _ _ _ _ jj (Keep.ofNone hkj); replace jj := (hJ _ _).mono (by omega : w.heap.size ≤ w3.heap.size) _ _ jj hk2; replace hkj := Keep.refl none_ W2
  have hzhk2 := Keep.size hk2
  have hfenb : Keep (fen w3.heap.size M1) W2 W2 := Keep.refl _ _
  have hzhfenb := Keep.size hfenb
  have hzhkj := Keep.size hkj
  refine V_block <| V_seq <| V_draws (acts [12]) none_ [[0, 1, 2, 3, 4, 5, 6, 7, 8, 9, 10, 11, 12, 13, 14]] (by kernel_rfl) (by repeat first | exact (by first | exact sure_postM | exact sure_rQ2 | exact sure_no | exact sure_body (by rintro _ _ ⟨h, _⟩; exact ⟨_, h⟩)) | refine sure_then ?_ | refine sure_block ?_ | refine sure_join ?_) (by kernel_rfl) ?_
  intro w23 hk22 he24 L hL25
  have hsz26 := Keep.size hk22
  replace jbs := jbs.k0 hk22
  replace jbn := jbn.k0 hk22
  replace jb1 := jb1.k0 hk22
  replace hb7_12 := hb7_12.k0 hk22
  replace hb14_19 := hb14_19.k0 hk22
  replace hkj := hkj.tn hk22
  replace hfenb := hfenb.tn hk22
  have qjbs := jbs
  have qjbn := jbn
  have qjb1 := jb1
  have qhb7_12 := hb7_12
  have qhb14_19 := hb14_19
  have K27 : Keep none_ w23 w23 := Keep.refl _ _
  obtain rfl := List.mem_singleton.1 hL25
  refine Mr 0 (nt 0) qjbs <| Gn [2, 3, 4, 5, 6, 7, 8, 9, 10, 11, 12, 13, 14] [2, 3, 4, 5, 6, 12] <| Mr 0 (nt x.a) qhb7_12 <| Mr 0 (nt n) qjbn <| Gn [6, 7, 8, 9, 10, 11, 12, 13, 14] [2, 4, 5, 6, 16] ?_
  by_cases hg28 : x.a = n
  ·
   refine Et 16 hg28 <| Mr 0 (.func (.yield l) #[] #[]) qjb1 <| Mr 0 (nt 0) qjbs <| Gs [10, 11, 12, 13, 14] [(6, pt b14),(16, .bool true),(17, .func (.yield l) #[] #[]),(20, po_ b7 1)] <| Gc0 3 (.tmp 20) 1 (nt x.b) (some 21) qhb7_12 rfl <| Ga 23 (.tmp 6) 0 (Vt.cells x.v) (some 22) 6 qhb14_19 id (take_all (Vt.len _)) (Vt.len _) ?_
   obtain ⟨hat, hlt⟩ := rowL_at hx hg28
   refine GI_yield0 { callee := (Callee.value (Operand.tmp 17)), args := #[(Operand.tmp 21),(Operand.tmp 22)], argTypes := #[3, 23] } l #[nt x.b, .agg (Vt.cells x.v).toArray] (some 23) (by kernel_rfl) (by kernel_rfl) (by kernel_rfl) (by kernel_rfl) (by have hy := hY M1 _ _ (by omega) (by omega) hlt (hJ _ _ _ _ jj (Keep.ofNone hkj)); rw [enc2_at hat] at hy; exact hy) ?_
   rintro _ w29 ⟨hk31, (⟨rfl, hj30⟩ | ⟨rfl, hj30⟩)⟩
   ·
    refine ⟨_, rfl, ?_⟩
    have hsz32 := Keep.size hk31
    replace jb1 := jb1.keep hk31 (by show ¬ (_ ∨ _); omega)
    replace hfenb := Keep.fresh hfenb hk31 (by intro i hi hs; rcases hs with hs | hs; exact .inl (by omega); exact .inr hs)
    have hok33 := hOk _ _ _ hj30
    have hok33s := hok33.side
    have hok33n := hok33.num
    refine Gs [] [(25, .bool false)] <| GI_end <| X_then <| Vf <| V_skip <| X_block ?_
    exact fun a _ => ⟨hfenb, hok33s, hok33n, jb1, by rw [rowL_step hx, if_pos hg28]; simpa using hj30⟩
   ·
    refine ⟨_, rfl, ?_⟩
    have hsz34 := Keep.size hk31
    replace hfenb := Keep.fresh hfenb hk31 (by intro i hi hs; rcases hs with hs | hs; exact .inl (by omega); exact .inr hs)
    refine Gs [] [(25, .bool true)] <| GI_end <| X_then <| Vo <| V_ret <| X_ret_block ?_
    exact fun a _ => ⟨hfenb, ⟨rfl, _, hj30, by omega⟩⟩
  refine Ef 16 hg28 <| Gs [] [(25, .bool false)] <| GI_end <| X_then <| Vf <| V_skip <| X_block ?_
  exact fun a _ => ⟨hfenb, jbs, jbn, jb1, hJ _ _ _ _ (by rw [rowL_step hx, if_neg hg28]; exact jj) (Keep.ofNone hkj)⟩
 ·
  intro D M1 W hD hM ⟨jbs, jbn, jb1, jj⟩ hDD
  have hbslt := jbs.lt
  have hbnlt := jbn.lt
  have hb1lt := jb1.lt
  refine X_block ?_
  rw [List.take_length] at jj
  exact leave1 (.tuple #[]) (.inr rfl) hDD (fun w' hk => ⟨res_tmps rfl, ⟨_, rfl⟩, M1, by omega, .inl (((hJ _ _).mono (by omega)) _ _ jj hk)⟩)
 ·
  intro D M1 k c W hD hM hkm h hDD
  obtain ⟨hc, q, xx, hq⟩ := h
  subst hc
  refine V_ret <| X_ret_block ?_
  exact leave1 (.tuple #[]) (.inl rfl) hDD (fun w' hk => ⟨res_tmps rfl, ⟨_, rfl⟩, M1, by omega, .inr ⟨q, hq, ((hJx _ _).mono (by omega)) _ _ xx hk⟩⟩)
theorem alongfn_spec (v : Value) (hv : v.cells = [v].toArray) (s n : Int) (w : World) : Calls Tryz.prog 122 #[v, nt s, nt n] w fun e w' => ∃ bg bs bn, e = .returned (.func (.func 135) #[] #[pt bg, pt bs, pt bn]) ∧ Blk w' bg [v] 91 ∧ Blk w' bs [nt s] 3 ∧ Blk w' bn [nt n] 3 ∧ Keep none_ w w' ∧ w.heap.size ≤ bg ∧ w.heap.size ≤ bs ∧ w.heap.size ≤ bn := by
 have hK0 := Keep.refl none_ w
 refine eV ?_
 refine Vr <| OI_box 91 (.tmp 0) v [v] (some 3) (by kernel_rfl) (by kernel_rfl) hv ?_
 intro b1 w1 e1 hb1 k1 z1
 have hsz2 := Keep.size k1
 replace hK0 := hK0.tn k1
 have hb1lt := hb1.lt
 refine Bx 3 [nt s] ?_
 intro b3 w3 e3 hb3 k3 z3
 have hsz4 := Keep.size k3
 replace hK0 := hK0.tn k3
 have hb3lt := hb3.lt
 refine Bx 3 [nt n] ?_
 intro b5 w5 e5 hb5 k5 z5
 have hsz6 := Keep.size k5
 replace hb1 := hb1.k0 (k3.tr k5)
 replace hb3 := hb3.k0 k5
 replace hK0 := hK0.tn k5
 have hb5lt := hb5.lt
 refine On 4 [3, 4, 5] <| Oer <| Ose [(6, .func (.func 135) #[] #[pt b1, pt b3, pt b5])] <| V_ret ?_
 exact X_return _ rfl ⟨_, _, _, rfl, hb1, hb3, hb5, hK0, by omega, by omega, by omega⟩
theorem row_spec (v : Value) (hv : v.cells = [v].toArray) (n : Int) (w : World) : Calls Tryz.prog 95 #[v, nt n] w fun e w' => ∃ bg bs bn, e = .returned (.func (.func 135) #[] #[pt bg, pt bs, pt bn]) ∧ Blk w' bg [v] 91 ∧ Blk w' bs [nt 0] 3 ∧ Blk w' bn [nt n] 3 ∧ Keep none_ w w' ∧ w.heap.size ≤ bg ∧ w.heap.size ≤ bs ∧ w.heap.size ≤ bn := by
 have hK0 := Keep.refl none_ w
 refine eV ?_
 refine Vr <| On 1 [0, 1] <| Oer <| On 2 [5, 6] <| Kg (alongfn_spec v hv 0 n _) ?_
 rintro _ w1 ⟨bg, bs, bn, rfl, h1, h2, h3, hk2, h4, h5, h6⟩
 refine ⟨_, rfl, ?_⟩
 have hsz3 := Keep.size hk2
 replace hK0 := hK0.tn hk2
 refine Ose [(4, .func (.func 135) #[] #[pt bg, pt bs, pt bn])] <| V_ret ?_
 exact X_return _ rfl ⟨_, _, _, rfl, h1, h2, h3, hK0, h4, h5, h6⟩
end Go.Al.GV
namespace Go.Al.GV
open Go Go.RowKit Go.Proofs
variable {F : Nat → Prop} {cs : List Ci} {g : Nat} {w : World}
theorem Srt.nil : Srt [] := List.Pairwise.nil
def Grd (F : Nat → Prop) (w : World) (g : Nat) (cs : List Ci) : Prop := Srt cs ∧ cs.length ≤ 100000 ∧ F g ∧ (∀ q, F q → q < w.heap.size) ∧ ∃ A cap, GrAt w g A cap cs ∧ ∀ q, inA A q → F q
theorem Grd.lt (h : Grd F w g cs) : ∀ q, F q → q < w.heap.size := h.2.2.2.1
theorem Grd.at_ (h : Grd F w g cs) : F g := h.2.2.1
theorem Grd.len (h : Grd F w g cs) : cs.length ≤ 100000 := h.2.1
theorem Grd.keep {S : Nat → Prop} {w' : World} (h : Grd F w g cs) (k : Keep S w w') (hS : ∀ q, F q → ¬ S q) : Grd F w' g cs := by
  obtain ⟨h1, h2, h3, h4, A, cap, h5, h6⟩ := h
  exact ⟨h1, h2, h3, fun q hq => Nat.lt_of_lt_of_le (h4 q hq) k.size, A, cap, ⟨h5.blk.keep k (hS _ h3), h5.sl.keep k (fun q hq => hS q (h6 q hq)), h5.off⟩, h6⟩
theorem Grd.quiet {N : Nat} {w' : World} (h : Grd F w g cs) (k : Keep (lb N w) w w') : Grd F w' g cs := by
  obtain ⟨h1, h2, h3, h4, A, cap, h5, h6⟩ := h
  exact ⟨h1, h2, h3, fun q hq => Nat.lt_of_lt_of_le (h4 q hq) k.size, A, cap, h5.quiet k, h6⟩
theorem Grd.mono {F' : Nat → Prop} (h : Grd F w g cs) (hF : ∀ q, F q → F' q) (hlt : ∀ q, F' q → q < w.heap.size) : Grd F' w g cs := by
  obtain ⟨h1, h2, h3, h4, A, cap, h5, h6⟩ := h
  exact ⟨h1, h2, hF _ h3, hlt, A, cap, h5, fun q hq => hF q (h6 q hq)⟩
theorem Grd.of {D : Nat → Prop} (h : Gr D w g cs) (hg : F g) (hD : ∀ q, q < w.heap.size → D q → F q) (hlt : ∀ q, F q → q < w.heap.size) : Grd F w g cs := by
  obtain ⟨h1, h2, A, cap, h5, h6⟩ := h
  exact ⟨h1, h2, hg, hlt, A, cap, h5, fun q hq => hD q (h5.sl.lt q hq) (h6 q hq)⟩
theorem Grd.gr (h : Grd F w g cs) : Gr F w g cs := by
  obtain ⟨h1, h2, h3, h4, A, cap, h5, h6⟩ := h
  exact ⟨h1, h2, A, cap, h5, h6⟩
def more (F : Nat → Prop) (w w' : World) : Nat → Prop := fun q => F q ∨ (w.heap.size ≤ q ∧ q < w'.heap.size)
theorem Gr.mono {D D' : Nat → Prop} (h : Gr D w g cs) (hD : ∀ k, D k → D' k) : Gr D' w g cs := by
  obtain ⟨h1, h2, A, cap, h5, h6⟩ := h
  exact ⟨h1, h2, A, cap, h5, fun q hq => hD q (h6 q hq)⟩
theorem new_grd (w : World) : Calls Tryz.prog 85 #[] w fun e w' => ∃ g F, e = .returned (pt g) ∧ Grd F w' g [] ∧ Keep none_ w w' ∧ (∀ q, F q → w.heap.size ≤ q) := (new_spec (fun q => w.heap.size ≤ q) w).mono (by
  rintro e w' ⟨g, rfl, h1, h2, h3⟩
  have hg : g < w'.heap.size := by obtain ⟨_, _, A, cap, h, _⟩ := h1; exact h.blk.lt
  exact ⟨g, fun q => w.heap.size ≤ q ∧ q < w'.heap.size, rfl, Grd.of h1 ⟨h3, hg⟩ (fun q h1 h2 => ⟨h2, h1⟩) (fun q h => h.2), h2, fun q h => h.1⟩)
theorem set_grd (F : Nat → Prop) (g : Nat) (cs : List Ci) (a b : Int) (v : Vt) (w : World) (h : Grd F w g cs) (hmax : cs.length < 100000) : Calls Tryz.prog 59 #[pt g, nt a, nt b, .agg (Vt.cells v).toArray] w fun e w' => e = .returned (.tuple #[]) ∧ (∃ F', Grd F' w' g (setC a b v cs) ∧ (∀ q, F' q → F q ∨ w.heap.size ≤ q)) ∧ Keep F w w' :=
  (set_spec (fun q => F q ∨ w.heap.size ≤ q) g cs a b v w (h.gr.mono (fun _ h => .inl h)) (fun _ h => .inr h) hmax).mono (by
    rintro e w' ⟨rfl, h1, h2⟩
    exact ⟨rfl, ⟨more F w w', Grd.of h1 (.inl h.at_) (fun q hq hD => hD.imp id (fun h => ⟨h, hq⟩)) (fun q hq => by rcases hq with hq | hq; exact Nat.lt_of_lt_of_le (h.lt q hq) h2.size; exact hq.2), fun q hq => hq.imp id (·.1)⟩, h2.mono (fun q _ hq => by rw [show q = g from hq]; exact h.at_)⟩)
theorem del_grd (F : Nat → Prop) (g : Nat) (cs : List Ci) (a b : Int) (w : World) (h : Grd F w g cs) : Calls Tryz.prog 64 #[pt g, nt a, nt b] w fun e w' => e = .returned (.bool (getC a b cs).isSome) ∧ (∃ F', Grd F' w' g (delC a b cs) ∧ (∀ q, F' q → F q ∨ w.heap.size ≤ q)) ∧ Keep F w w' :=
  (del_spec (fun q => F q ∨ w.heap.size ≤ q) g cs a b w (h.gr.mono (fun _ h => .inl h)) (fun _ h => .inr h)).mono (by
    rintro e w' ⟨rfl, h1, h2⟩
    exact ⟨rfl, ⟨more F w w', Grd.of h1 (.inl h.at_) (fun q hq hD => hD.imp id (fun h => ⟨h, hq⟩)) (fun q hq => by rcases hq with hq | hq; exact Nat.lt_of_lt_of_le (h.lt q hq) h2.size; exact hq.2), fun q hq => hq.imp id (·.1)⟩, h2.mono (fun q _ hq => by rw [show q = g from hq]; exact h.at_)⟩)
end Go.Al.GV
namespace Go.Al.GR
open Go Go.RowKit Go.Proofs
structure Ci where
  a : Int
  b : Int
  v : Option Addr
def Ci.cells (c : Ci) : List Value := [nt c.a, nt c.b, .pointer c.v]
theorem Ci.len (c : Ci) : c.cells.length = 3 := rfl
theorem Ci.one (c : Ci) : ∀ u ∈ c.cells, u.oneCell' = true := one_all' rfl
def ordC (a b : Int) (c : Ci) : Int := orI [cmpI c.a a, cmpI c.b b]
theorem place1_spec (c : Ci) (a b : Int) (w : World) : Calls Tryz.prog 130 #[.agg c.cells.toArray, .agg #[nt a, nt b]] w fun e w' => e = .returned (nt (ordC a b c)) ∧ Keep none_ w w' := by
 have hK0 := Keep.refl none_ w
 refine eV ?_
 refine Vr <| OI_box 177 (.tmp 0) (.agg (Ci.cells c).toArray) (Ci.cells c) (some 2) (by kernel_rfl) (by kernel_rfl) rfl ?_
 intro b1 w1 e1 hb1 k1 z1
 have hsz2 := Keep.size k1
 replace hK0 := hK0.tn k1
 have hb1lt := hb1.lt
 refine Bx 147 [nt a, nt b] ?_
 intro b3 w3 e3 hb3 k3 z3
 have hsz4 := Keep.size k3
 replace hK0 := hK0.tn k3
 have hb3lt := hb3.lt
 refine Oen [2, 3] <| V_seq <| Vd1 (acts [5, 11, 12, 13]) none_ [0, 1, 2, 3, 4, 5, 6, 7, 8, 9, 10, 11, 12, 13, 14] fun w6 hk5 he7 K10 _ => ?_
 replace hb1 := hb1.k0 (k3.tr hk5)
 replace hb3 := hb3.k0 hk5
 replace hK0 := hK0.tn hk5
 have qhb1 := hb1
 have qhb3 := hb3
 refine Gn [2, 3, 4, 5, 6, 7, 8, 9, 10, 11, 12, 13, 14] [2, 3, 6] <| Mr 0 (nt c.a) qhb1 <| Gn [4, 5, 6, 7, 8, 9, 10, 11, 12, 13, 14] [2, 3, 7, 8] <| Mr 0 (nt a) qhb3 <| Hq K10 (compare_spec c.a a _) <| Gn [8, 9, 10, 11, 12, 13, 14] [3, 10, 12] <| Mr 1 (nt c.b) qhb1 <| Gn [10, 11, 12, 13, 14] [10, 13, 14] <| Mr 1 (nt b) qhb3 <| Jq (compare_spec c.b b _) <| GI_slit (E := 3) (zv := nt 0) (sz := 1) (by_ := 8) 28 2 #[(0, (Operand.tmp 10)),(1, (Operand.tmp 16))] [nt (cmpI c.a a), nt (cmpI c.b b)] [nt (cmpI c.a a), nt (cmpI c.b b)] (some 17) (by kernel_rfl) (by kernel_rfl) K10 (by kernel_rfl) (by kernel_rfl) (by omega) rfl (by omega) (by intro v hv; simp only [List.mem_cons, List.not_mem_nil, or_false] at hv; rcases hv with rfl | rfl <;> rfl) (by kernel_rfl) rfl ?_
 intro b13 w13 e13 hb13 k13 z13 K14
 have hsz15 := Keep.size k13
 replace hK0 := hK0.tn k13
 have hb13lt := hb13.lt
 refine Gk0 (kl 118 #[(.tmp 17)] #[28]) 118 #[sl_ b13 0 2 2] (some 18) (or_spec _ 2 [cmpI c.a a, cmpI c.b b] _ (slt_blk hb13 (fun _ => rfl) rfl) (by simp)) ?_
 rintro _ w13 ⟨rfl, rfl⟩
 refine ⟨_, rfl, ?_⟩
 exact Gn [] [4] <| GI_end <| X_then <| Rr (nt (orI [cmpI c.a a, cmpI c.b b])) ⟨rfl, hK0⟩
theorem bsearch_spec (A : Option Addr) (cap F : Nat) (xs : List Ci) (kl : List Value) (ord : Ci → Int) (w : World) (hA : SlT w 3 Ci.cells A cap xs) (hkl : kl.length = 2) (hn : xs.length ≤ 1000000) (hb : bodied Tryz.prog F = true)
    (hF : ∀ x w, Calls Tryz.prog F #[.agg (Ci.cells x).toArray, .agg kl.toArray] w fun e w' => e = .returned (nt (ord x)) ∧ Keep none_ w w') (hm : ∀ (i j : Nat) x y, i ≤ j → xs[i]? = some x → xs[j]? = some y → ord y < 0 → ord x < 0) :
    Calls Tryz.prog 129 #[.slice A xs.length cap, .agg kl.toArray, .func (.func F) #[] #[]] w fun e w' => ∃ (i : Nat) (b : Bool), e = .returned (.tuple #[nt (i : Int), .bool b]) ∧ Keep none_ w w' ∧ i ≤ xs.length ∧ (∀ (j : Nat) y, j < i → xs[j]? = some y → ord y < 0) ∧ (∀ (j : Nat) y, i ≤ j → xs[j]? = some y → ¬ ord y < 0) ∧ b = (match xs[i]? with | some y => decide (ord y = 0) | none => false) := by
 have hK0 := Keep.refl none_ w
 refine eV ?_
 refine Vr <| OI_box 147 (.tmp 1) (.agg kl.toArray) kl (some 4) (by kernel_rfl) (by kernel_rfl) rfl ?_
 intro b1 w1 e1 hb1 k1 z1
 have hsz2 := Keep.size k1
 replace hK0 := hK0.tn k1
 have hb1lt := hb1.lt
 refine On 3 [0, 2, 4] <| Oer <| On 3 [0, 2, 4, 8] <| Oer <| Oen [0, 2, 4, 8, 9, 10] <| V_seq <| V_block <| Vp [(0, .slice A xs.length cap),(2, .func (.func F) #[] #[]),(4, pt b1),(8, nt (xs.length : Int)),(9, nt 0),(10, nt (xs.length : Int))] <| V_loop (fun k wI e => ∃ lo : Nat, ∃ hi : Nat, (k + lo = hi) ∧ (lo ≤ hi) ∧ (hi ≤ xs.length) ∧ (∀ (j : Nat) y, j < lo → xs[j]? = some y → ord y < 0) ∧ (∀ (j : Nat) y, hi ≤ j → xs[j]? = some y → ¬ ord y < 0) ∧ Keep none_ w1 wI ∧ e = [(0, .slice A xs.length cap),(2, .func (.func F) #[] #[]),(4, pt b1),(8, nt (xs.length : Int)),(9, nt (lo : Int)),(10, nt (hi : Int))]) xs.length ⟨0, xs.length, rfl, Nat.zero_le _, Nat.le_refl _, (fun j y hj => absurd hj (Nat.not_lt_zero _)),(fun j y hj hy => absurd (List.getElem?_eq_some_iff.1 hy).1 (by omega)), Keep.refl _ _, rfl⟩ ?_
 rintro k4 w3 _ ⟨lo, hi, hk2, hlo, hhi, hbef, haft, hk5, rfl⟩
 have hsz6 := Keep.size hk5
 replace hb1 := hb1.k0 hk5
 replace hA := hA.keep0 (k1.tr hk5)
 replace hK0 := hK0.tn hk5
 have hzhk5 := Keep.size hk5
 refine V_seq <| Vn [0, 2, 4, 8, 9, 10, 17] <| Vi ((lo : Int) < (hi : Int)) (fun hc7 => ?_) (fun hc7 => ?_)
 ·
  refine Vsk <| V_block <| Vr ?_
  have hw8 : i64.wrap ((lo : Int) + (hi : Int)) = ((lo + hi : Nat) : Int) := wrp
  refine On 3 [0, 2, 4, 8, 9, 10, 20] <| Oq (u := nt (i64.wrap ((lo : Int) + (hi : Int)))) (v := nt ((lo + hi : Nat) : Int)) 20 (by rw [hw8]) ?_
  have hw9 : IntKind.u64.wrap ((lo + hi : Nat) : Int) = ((lo + hi : Nat) : Int) := wrap_u64 (by omega)
  refine On 4 [0, 2, 4, 8, 9, 10, 21] <| Oq (u := .int .u64 (IntKind.u64.wrap ((lo + hi : Nat) : Int))) (v := .int .u64 ((lo + hi : Nat) : Int)) 21 (by rw [hw9]) ?_
  have hw10 : Int.fdiv ((lo + hi : Nat) : Int) (2 ^ 1) = (((lo + hi) / 2 : Nat) : Int) := shr1 _
  refine On 5 [0, 2, 4, 8, 9, 10, 22] <| Oq (u := .int .u64 (Int.fdiv ((lo + hi : Nat) : Int) (2 ^ 1))) (v := .int .u64 (((lo + hi) / 2 : Nat) : Int)) 22 (by rw [hw10]) ?_
  have hw11 : i64.wrap (((lo + hi) / 2 : Nat) : Int) = (((lo + hi) / 2 : Nat) : Int) := wrap64_id (by omega) (by omega)
  refine On 6 [0, 2, 4, 8, 9, 10, 23] <| Oq (u := nt (i64.wrap (((lo + hi) / 2 : Nat) : Int))) (v := nt (((lo + hi) / 2 : Nat) : Int)) 23 (by rw [hw11]) <| Oen [0, 2, 4, 8, 9, 10, 11] <| V_seq <| Vd1 (acts [6]) none_ [0, 1, 2, 3, 4, 5, 6, 7] fun w13 hk12 he14 K17 _ => ?_
  replace hb1 := hb1.k0 hk12
  replace hA := hA.keep0 hk12
  replace hk5 := hk5.tn hk12
  have qhb1 := hb1
  refine Gn [3, 4, 5, 6, 7] [0, 2, 4, 8, 9, 10, 11, 24, 25, 26] ?_
  obtain ⟨b18, o18, L18, T18, rfl, hat18⟩ := SlT.opn hA
  have hb18lt := hat18.blk.lt
  refine Gi (b := b18) (o := o18) (len := xs.length) (cap := cap) (j := (lo + hi) / 2) 177 3 24 .i64 ?_
  obtain ⟨x19, hx20⟩ := exAt (xs := xs) (i := (lo + hi) / 2)
  refine Ma (o18 + ((lo + hi) / 2) * 3) (Ci.cells x19) 3 hat18.blk id (At.elem' hat18 (es_at hx20)) (At.len hat18 (es_at hx20)) <| Ma 0 kl 2 qhb1 id (take_all hkl) hkl <| GI_call0 { callee := (Callee.value (Operand.tmp 24)), args := #[(Operand.tmp 28),(Operand.tmp 29)], argTypes := #[177, 147] } F #[.agg (Ci.cells x19).toArray, .agg kl.toArray] (some 30) (by kernel_rfl) (by kernel_rfl) (by kernel_rfl) (by kernel_rfl) hb (hF x19 _) ?_
  rintro _ w21 ⟨rfl, hk22⟩
  refine ⟨_, rfl, ?_⟩
  have hsz23 := Keep.size hk22
  replace hk5 := hk5.tn hk22
  refine Gn [] [0, 2, 4, 8, 9, 10, 11, 31] <| GI_end <| X_then <| Vi (ord x19 < 0) (fun hc24 => ?_) (fun hc24 => ?_)
  ·
   refine V_region ?_
   have hw25 : i64.wrap ((((lo + hi) / 2 : Nat) : Int) + 1) = (((lo + hi) / 2 + 1 : Nat) : Int) := wrp
   refine On 2 [0, 2, 4, 8, 10, 33] <| Oq (u := nt (i64.wrap ((((lo + hi) / 2 : Nat) : Int) + 1))) (v := nt (((lo + hi) / 2 + 1 : Nat) : Int)) 33 (by rw [hw25]) <| Os 3 [(0, sl_ b18 o18 xs.length cap),(2, .func (.func F) #[] #[]),(4, pt b1),(8, nt (xs.length : Int)),(9, nt (((lo + hi) / 2 + 1 : Nat) : Int)),(10, nt (hi : Int))] <| OI_end rfl <| X_block ?_
   exact V_again (hi - ((lo + hi) / 2 + 1)) (by omega) [(0, sl_ b18 o18 xs.length cap),(2, .func (.func F) #[] #[]),(4, pt b1),(8, nt (xs.length : Int)),(9, nt (((lo + hi) / 2 + 1 : Nat) : Int)),(10, nt (hi : Int))] rfl ⟨(lo + hi) / 2 + 1, hi, by omega, by omega, by omega, fun j y hj hy => hm j ((lo + hi) / 2) y x19 (by omega) hy hx20 hc24, haft, hk5, rfl⟩
  refine V_region <| Os 2 [(0, sl_ b18 o18 xs.length cap),(2, .func (.func F) #[] #[]),(4, pt b1),(8, nt (xs.length : Int)),(9, nt (lo : Int)),(10, nt (((lo + hi) / 2 : Nat) : Int))] <| OI_end rfl <| X_block ?_
  exact V_again ((lo + hi) / 2 - lo) (by omega) [(0, sl_ b18 o18 xs.length cap),(2, .func (.func F) #[] #[]),(4, pt b1),(8, nt (xs.length : Int)),(9, nt (lo : Int)),(10, nt (((lo + hi) / 2 : Nat) : Int))] rfl ⟨lo, (lo + hi) / 2, by omega, by omega, by omega, hbef, fun j y hj hy hlt => hc24 (hm ((lo + hi) / 2) j x19 y (by omega) hx20 hy hlt), hk5, rfl⟩
 refine V_exit <| X_exit_then <| X_exit_then <| X_exit_here <| X_then <| V_seq <| Vd1 (acts [11]) none_ [1, 2, 3, 4, 5, 6, 7, 8, 9, 10, 11, 0, 12, 13, 14, 15] fun w27 hk26 he28 K31 _ => ?_
 replace hb1 := hb1.k0 hk26
 replace hA := hA.keep0 hk26
 replace hK0 := hK0.tn hk26
 have qhb1 := hb1
 refine Gn [5, 6, 7, 8, 9, 10, 11, 0, 12, 13, 14, 15] [0, 2, 4, 9, 39] ?_
 by_cases hg32 : (lo : Int) < (xs.length : Int)
 ·
  refine Et 39 hg32 <| Gn [8, 9, 10, 11, 0, 12, 13, 14, 15] [4, 9, 39, 40, 41, 42] ?_
  obtain ⟨b33, o33, L33, T33, rfl, hat33⟩ := SlT.opn hA
  have hb33lt := hat33.blk.lt
  refine Gi (b := b33) (o := o33) (len := xs.length) (cap := cap) (j := lo) 177 3 24 .i64 ?_
  obtain ⟨x34, hx35⟩ := exAt (xs := xs) (i := lo)
  refine Ma (o33 + lo * 3) (Ci.cells x34) 3 hat33.blk id (At.elem' hat33 (es_at hx35)) (At.len hat33 (es_at hx35)) <| Ma 0 kl 2 qhb1 id (take_all hkl) hkl <| GI_call0 { callee := (Callee.value (Operand.tmp 40)), args := #[(Operand.tmp 44),(Operand.tmp 45)], argTypes := #[177, 147] } F #[.agg (Ci.cells x34).toArray, .agg kl.toArray] (some 46) (by kernel_rfl) (by kernel_rfl) (by kernel_rfl) (by kernel_rfl) hb (hF x34 _) ?_
  rintro _ w36 ⟨rfl, hk37⟩
  refine ⟨_, rfl, ?_⟩
  have hsz38 := Keep.size hk37
  replace hK0 := hK0.tn hk37
  refine Gn [] [6, 7] <| GI_end <| X_then <| V_ret ?_
  have hlh : lo = hi := by omega
  subst hlh
  exact Xr (.tuple #[nt (lo : Int), .bool (decide (ord x34 = 0))]) ⟨lo, _, rfl, hK0, by omega, hbef, haft, (by rw [hx35])⟩
 refine Ef 39 hg32 <| Gn [] [6, 7] <| GI_end <| X_then <| V_ret ?_
 have hlh : lo = hi := by omega
 subst hlh
 exact Xr (.tuple #[nt (lo : Int), .bool false]) ⟨lo, _, rfl, hK0, by omega, hbef, haft, (by rw [List.getElem?_eq_none (by omega)])⟩
end Go.Al.GR
