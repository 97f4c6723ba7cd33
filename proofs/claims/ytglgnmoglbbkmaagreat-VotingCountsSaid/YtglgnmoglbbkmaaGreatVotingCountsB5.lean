/-
  Put together out of 11 texts: Walks of package voting: more, or less, is delegated to an account. Walks of package voting: Vote. Package voting: what Unvote, Delegate, Undelegate, Unlock do. Walks of package voting: Delegate. Walks of package voting: New; the voting with its tracks. The document's l
-/
import Derived.Test.YtglgnmoglbbkmaaGreatVotingCountsB4
open Go.IntKind (i64)
set_option maxRecDepth 10000
namespace Go.Al
open Go Go.RowKit Go.Proofs
variable {s : VS}
theorem Vot.recO {F : Nat → Prop} {w : World} {v : Nat} {P : VP} (h : Vot F w v P s) {a t : Int} {q : Nat} (e : GR.getC a t P.rs = some (some ⟨q, 0, none⟩)) : ∃ dp, F q ∧ Blk w q (RecS.cells dp (s.rc a t)) 99 := by
  obtain ⟨⟨dp, h1, _⟩, h2⟩ := h.recB e
  exact ⟨dp, h2, h1⟩
theorem Vot.setDelE {F : Nat → Prop} {w w' : World} {v : Nat} {P : VP} {s : VS} (h : Vot F w v P s) {a t : Int} {q b0 : Nat} {r' : RecS} {d : DelS} {L : List Value} (e : GR.getC a t P.rs = some (some ⟨q, 0, none⟩)) (hb : Blk w q L 99) (hb0 : Blk w b0 d.cells 101) (hF0 : ¬ F b0) (k : Keep (only q) w w') (hb' : Blk w' q (RecS.cells (some ⟨b0, 0, none⟩) r') 99)
    (hd : r'.d = some d) (hok : okD r') : ∃ F', Vot F' w' v P (s.setR a t r') ∧ ∀ x, F' x → F x ∨ x = b0 := ⟨_, Vot.setDel h e hb hb0 hF0 k hb' hd hok, fun _ h => h⟩
def retally1 (was now : Wgt) (s : VS) (c : Int × Vt) : VS := match s.ps[c.1.toNat]? with
  | some (some q) => if q.state = 0 then s.setP c.1.toNat { q with t := addT (subT q.t (gainT c.2 was)) (gainT c.2 now) } else s
  | _ => s
def retally (was now : Wgt) (s : VS) (l : List (Int × Vt)) : VS := l.foldl (retally1 was now) s
def gotW (g wt : Wgt) : Wgt := ⟨w64 (g.v + wt.v), w64 (g.c + wt.c)⟩
def getsS (s : VS) (a t : Int) (wt : Wgt) : VS := retally (s.rc a t).got (gotW (s.rc a t).got wt) (s.setR a t { s.rc a t with got := ⟨w64 ((s.rc a t).got.v + wt.v), w64 ((s.rc a t).got.c + wt.c)⟩ }) (vrow s a t)
theorem retally1_inv (was now : Wgt) (s : VS) (c : Int × Vt) : (retally1 was now s c).cs = s.cs ∧ (retally1 was now s c).rc = s.rc ∧ ∀ r, trk (retally1 was now s c) r = trk s r := by
  unfold retally1
  split
  · rename_i q hq
    split
    · exact ⟨rfl, rfl, trk_setP hq rfl⟩
    · exact ⟨rfl, rfl, fun _ => rfl⟩
  · exact ⟨rfl, rfl, fun _ => rfl⟩
theorem retally_inv (was now : Wgt) : ∀ (l : List (Int × Vt)) (s : VS),(retally was now s l).cs = s.cs ∧ (retally was now s l).rc = s.rc ∧ ∀ r, trk (retally was now s l) r = trk s r
  | [], s => ⟨rfl, rfl, fun _ => rfl⟩
  | c :: l, s => by
    obtain ⟨h1, h2, h3⟩ := retally1_inv was now s c
    obtain ⟨g1, g2, g3⟩ := retally_inv was now l (retally1 was now s c)
    exact ⟨g1.trans h1, g2.trans h2, fun r => (g3 r).trans (h3 r)⟩
theorem retally_step {was now : Wgt} {l : List (Int × Vt)} {k : Nat} {c : Int × Vt} (h : l[k]? = some c) : retally was now s (l.take (k + 1)) = retally1 was now (retally was now s (l.take k)) c := by
  obtain ⟨h1, rfl⟩ := List.getElem?_eq_some_iff.1 h
  unfold retally
  rw [List.take_succ_eq_append_getElem h1, List.foldl_append]; rfl
theorem getsS_rc (s : VS) (a t : Int) (wt : Wgt) : (getsS s a t wt).rc = updR s.rc a t { s.rc a t with got := gotW (s.rc a t).got wt } := (retally_inv _ _ _ _).2.1
theorem getsS_d (s : VS) (a t : Int) (wt : Wgt) (x y : Int) : ((getsS s a t wt).rc x y).d = (s.rc x y).d := by
  rw [getsS_rc]; unfold updR
  split
  · rename_i h; rw [h.1, h.2]
  · rfl
theorem getsS_cs (s : VS) (a t : Int) (wt : Wgt) : (getsS s a t wt).cs = s.cs := (retally_inv _ _ _ _).1
theorem VotA.pthere {A : Option Addr} {cap : Nat} {F : Nat → Prop} {w : World} {v : Nat} {P : VP} {s0 : VS} (h : VotA A cap F w v P s) (hcs : s.cs = s0.cs) {a t : Int} {k : Nat} {x : Int × Vt} (hx : (vrow s0 a t)[k]? = some x) : ∃ q, pollAt s x.1 = some q := by
  obtain ⟨F1, F2, M, h, _⟩ := h
  have hm := List.mem_of_getElem? hx
  unfold vrow at hm
  obtain ⟨hm, _⟩ := List.mem_filter.1 hm
  obtain ⟨j, hj, he⟩ := List.getElem_of_mem hm
  obtain ⟨c, hc, h1, h2, h3⟩ := rowL_mem (k := j) (by rw [List.getElem?_eq_getElem hj, he])
  obtain ⟨g1, g2, g3, q0, g4⟩ := h.inv.votes c (by rw [hcs]; exact hc)
  refine ⟨q0, ?_⟩
  unfold pollAt
  rw [← h2, if_pos g2, g4]; rfl
theorem gets_spec (F : Nat → Prop) (v : Nat) (P : VP) (s : VS) (a t : Int) (wt : Wgt) (w : World) (h : Vot F w v P s)(ha : 0 ≤ a ∧ a < 10) (ht : 0 ≤ t ∧ t < 4) : Calls Tryz.prog 50 #[pt v, nt a, nt t, .agg wt.cells.toArray] w fun e w' => e = .returned (.tuple #[]) ∧ ∃ P', P'.pp = P.pp ∧ P'.gv = P.gv ∧ (∀ x y z, GR.getC x y P.rs = some z → GR.getC x y P'.rs = some z) ∧ (∀ x L, Blk w x L 101 → Blk w' x L 101) ∧ (∃ F', Vot F' w' v P' (getsS s a t wt) ∧ (∀ q, F' q → F q ∨ w.heap.size ≤ q)) ∧ Keep F w w' := by
 have hFlt := Vot.lt h
 have hvlt := hFlt _ (Vot.at_ h)
 have hFo : ∀ q, F q → 0 ≤ q := fun q _ => Nat.zero_le q
 have hFr : ∀ q, F q → F q ∨ w.heap.size ≤ q := fun _ h => .inl h
 have htd : ∀ x L, Blk w x L 101 → Blk w x L 101 := fun _ _ h => h
 have hK0 := Keep.refl F w
 refine enterM Tryz.func50 rfl [pt v, nt a, nt t, .agg (Wgt.cells wt).toArray] 68 rfl rfl rfl ?_
 refine Vp [(0, pt v),(1, nt a),(2, nt t),(3, .agg (Wgt.cells wt).toArray)] <| Vr <| Bx 31 [pt v] ?_
 intro b1 w1 e1 hb1 k1 z1
 have hsz2 := Keep.size k1
 replace h := h.keep k1 nk
 replace htd : ∀ x L, Blk w x L 101 → Blk w1 x L 101 := fun x L hx => Blk.keep (htd x L hx) k1 id
 replace hK0 := hK0.tn k1
 have hb1lt := hb1.lt
 refine OI_box 54 (.tmp 3) (.agg (Wgt.cells wt).toArray) (Wgt.cells wt) (some 7) (by kernel_rfl) (by kernel_rfl) rfl ?_
 intro b3 w3 e3 hb3 k3 z3
 have hsz4 := Keep.size k3
 replace hb1 := hb1.k0 k3
 replace h := h.keep k3 nk
 replace htd : ∀ x L, Blk w x L 101 → Blk w3 x L 101 := fun x L hx => Blk.keep (htd x L hx) k3 id
 replace hK0 := hK0.tn k3
 have hb3lt := hb3.lt
 refine Oer <| Lr 0 (pt v) hb1 <| On 3 [1, 2, 4, 7, 13, 14, 15] <| Kg (record_spec F v P s a t _ h ha ht) ?_
 rintro _ w17 ⟨q7, P8, rfl, hgc12, hpp13, hgv14, hmn15, hdl16, ⟨F9, ho10, hfr11⟩, hk18⟩
 refine ⟨_, rfl, ?_⟩
 have hsz19 := Keep.size hk18
 replace hb1 := hb1.keep hk18 (fun hs => by have h1 := hFo _ hs; have h2 := hFlt _ hs; omega)
 replace hb3 := hb3.keep hk18 (fun hs => by have h1 := hFo _ hs; have h2 := hFlt _ hs; omega)
 replace htd : ∀ x L, Blk w x L 101 → Blk w17 x L 101 := fun x L hx => hdl16 x L (htd x L hx)
 replace hK0 := frr hK0 hk18 hFr
 have own21 : ∀ q, F9 q → 0 ≤ q ∧ q ≠ b1 ∧ q ≠ b3 := fun q hq => by rcases hfr11 q hq with h | h; (have h1 := hFo q h; have h2 := hFlt q h; omega); omega
 have lt20 := Vot.lt ho10
 have rel22 : ∀ q, F9 q → F q ∨ w.heap.size ≤ q := fun q hq => by rcases hfr11 q hq with h | h; exact hFr q h; exact .inr (by omega)
 have hgq7lt := lt20 _ (Vot.at_ ho10)
 obtain ⟨dp25, hF24, hm23⟩ := Vot.recO ho10 hgc12
 have hq7lt := hm23.lt
 have hloq7 := lt20 _ hF24
 have hoq7 := own21 _ hF24
 refine Alc_ 95 (.pointer none) [.pointer none] ?_
 intro b26 w26 e26 hb26 k26 z26
 have hsz27 := Keep.size k26
 replace hb1 := hb1.k0 k26
 replace hb3 := hb3.k0 k26
 replace hm23 := hm23.k0 k26
 replace htd : ∀ x L, Blk w x L 101 → Blk w26 x L 101 := fun x L hx => Blk.keep (htd x L hx) k26 id
 replace hK0 := hK0.tn k26
 replace ho10 := ho10.keep k26 nk
 have hb26lt := hb26.lt
 refine St_ 0 (pt q7) hb26 ?_
 intro w28 hb26_31 hk29 hz30
 replace hb26_31 : Blk w28 b26 [pt q7] 95 := hb26_31
 have hsz32 := Keep.size hk29
 replace hb1 := hb1.k1 hk29
 replace hb3 := hb3.k1 hk29
 replace hm23 := hm23.k1 hk29
 replace htd : ∀ x L, Blk w x L 101 → Blk w28 x L 101 := fun x L hx => Blk.keep (htd x L hx) hk29 (Blk.ne (htd x L hx) hb26 (by decide))
 replace hK0 := Keep.fr hK0 hk29
 replace ho10 := ho10.keep hk29 (fun q hq hs => by have hs : q = b26 := hs; have g0 := own21 q hq; have g1 := lt20 q hq; omega)
 refine Oer <| Lr 0 (pt q7) hb26_31 <| On 3 [1, 2, 4, 7, 8, 19] <| La 1 [nt (((s.rc a t)).got.v), nt (((s.rc a t)).got.c)] 2 hm23 rfl rfl <| Alc_ 54 (.agg #[nt 0, nt 0]) [nt 0, nt 0] ?_
 intro b33 w33 e33 hb33 k33 z33
 have hsz34 := Keep.size k33
 replace hb1 := hb1.k0 k33
 replace hb3 := hb3.k0 k33
 replace hm23 := hm23.k0 k33
 replace hb26_31 := hb26_31.k0 k33
 replace htd : ∀ x L, Blk w x L 101 → Blk w33 x L 101 := fun x L hx => Blk.keep (htd x L hx) k33 id
 replace hK0 := hK0.tn k33
 replace ho10 := ho10.keep k33 nk
 have hb33lt := hb33.lt
 refine OI_set (m := 2) (kd := true) 54 (.tmp 9) (.tmp 20) 0 (.agg #[nt (((s.rc a t)).got.v), nt (((s.rc a t)).got.c)]) [nt (((s.rc a t)).got.v), nt (((s.rc a t)).got.c)] none (by kernel_rfl) (by kernel_rfl) (by kernel_rfl) hb33 (by kernel_rfl) (by kernel_rfl) (by kernel_rfl) (Nat.le_of_ble_eq_true (by kernel_rfl)) (by simp [Value.oneCell']) ?_
 intro w35 hb33_38 hk36 hz37
 replace hb33_38 : Blk w35 b33 [nt (((s.rc a t)).got.v), nt (((s.rc a t)).got.c)] 54 := hb33_38
 have hsz39 := Keep.size hk36
 replace hb1 := hb1.k1 hk36
 replace hb3 := hb3.k1 hk36
 replace hm23 := hm23.k1 hk36
 replace hb26_31 := hb26_31.k1 hk36
 replace htd : ∀ x L, Blk w x L 101 → Blk w35 x L 101 := fun x L hx => Blk.keep (htd x L hx) hk36 (Blk.ne (htd x L hx) hb33 (by decide))
 replace hK0 := Keep.fr hK0 hk36
 replace ho10 := ho10.keep hk36 (fun q hq hs => by have hs : q = b33 := hs; have g0 := own21 q hq; have g1 := lt20 q hq; omega)
 refine Oer <| Lr 0 (pt q7) hb26_31 <| On 2 [1, 2, 4, 7, 8, 9, 21, 22] <| Lr 0 (nt (((s.rc a t)).got.v)) hb33_38 <| On 4 [1, 2, 4, 7, 8, 9, 21, 23, 24] <| Lr 0 (nt wt.v) hb3 <| On 7 [1, 2, 4, 7, 8, 9, 21, 26, 27] <| Lr 1 (nt (((s.rc a t)).got.c)) hb33_38 <| On 9 [1, 2, 4, 8, 9, 21, 26, 28, 29] <| Lr 1 (nt wt.c) hb3 <| On 14 [1, 2, 4, 8, 9, 32, 34] <| OI_set (m := 2) (kd := true) 54 (.tmp 34) (.tmp 32) 1 (.agg #[nt (i64.wrap ((((s.rc a t)).got.v) + wt.v)), nt (i64.wrap ((((s.rc a t)).got.c) + wt.c))]) [nt (i64.wrap ((((s.rc a t)).got.v) + wt.v)), nt (i64.wrap ((((s.rc a t)).got.c) + wt.c))] none (by kernel_rfl) (by kernel_rfl) (by kernel_rfl) hm23 (by kernel_rfl) (by kernel_rfl) (by kernel_rfl) (Nat.le_of_ble_eq_true (by kernel_rfl)) (by simp [Value.oneCell']) ?_
 intro w40 hn43 hk41 hz42
 replace hn43 : Blk w40 q7 [.pointer dp25, nt (i64.wrap ((((s.rc a t)).got.v) + wt.v)), nt (i64.wrap ((((s.rc a t)).got.c) + wt.c)), nt (((s.rc a t)).till), nt (((s.rc a t)).n)] 99 := hn43
 have hsz44 := Keep.size hk41
 replace hb1 := hb1.keep hk41 (by show ¬ (b1 = q7); omega)
 replace hb3 := hb3.keep hk41 (by show ¬ (b3 = q7); omega)
 replace hb26_31 := hb26_31.keep hk41 (by show ¬ (b26 = q7); omega)
 replace hb33_38 := hb33_38.keep hk41 (by show ¬ (b33 = q7); omega)
 replace htd : ∀ x L, Blk w x L 101 → Blk w40 x L 101 := fun x L hx => Blk.keep (htd x L hx) hk41 (Blk.ne (htd x L hx) hm23 (by decide))
 replace hK0 := Keep.fresh hK0 hk41 (fun i hi hs => by have hs : F9 i := (by rw [show i = q7 from hs]; exact hF24); rcases rel22 i hs with h | h; exact h; (exfalso; omega))
 have ho45 := Vot.setRec (a := a) (t := t) (r' := { (s.rc a t) with got := ⟨i64.wrap ((((s.rc a t)).got.v) + wt.v), i64.wrap ((((s.rc a t)).got.c) + wt.c)⟩ }) (dp := dp25) (dp' := dp25) ho10 hgc12 hm23 hk41 (show Blk _ _ (RecS.cells dp25 { (s.rc a t) with got := ⟨i64.wrap ((((s.rc a t)).got.v) + wt.v), i64.wrap ((((s.rc a t)).got.c) + wt.c)⟩ }) _ from hn43) (.inl ⟨rfl, by first | rfl | exact joinR_d _ _ _ _ | (rw [show s.rc a t = (s.rc a t) from rfl]) | (rw [show s.rc a t = (s.rc a t) from rfl]; exact joinR_d _ _ _ _)⟩)
 obtain ⟨r46, hr46⟩ : ∃ r9 : RecS, r9 = { (s.rc a t) with got := ⟨i64.wrap ((((s.rc a t)).got.v) + wt.v), i64.wrap ((((s.rc a t)).got.c) + wt.c)⟩ } := ⟨_, rfl⟩
 replace hn43 : Blk w40 q7 (RecS.cells dp25 r46) 99 := by rw [hr46]; exact hn43
 have hq7lt := hn43.lt
 refine Oer <| Lr 0 (pt v) hb1 <| On 3 [4, 8, 9, 35, 36, 37] <| Ok (kl 60 #[(.tmp 35),(.tmp 36),(.tmp 37)] #[31, 3, 3]) 60 #[pt v, nt a, nt t] (some 38) (votesfn_spec _ rfl a t _) ?_
 rintro _ w49 ⟨bv51, bw52, bt53, rfl, hbv51, hbw52, hbt53, hk50, hgebv51, hgebw52, hgebt53⟩
 refine ⟨_, rfl, ?_⟩
 have hsz54 := Keep.size hk50
 replace hb1 := hb1.k0 hk50
 replace hb3 := hb3.k0 hk50
 replace hb26_31 := hb26_31.k0 hk50
 replace hb33_38 := hb33_38.k0 hk50
 replace htd : ∀ x L, Blk w x L 101 → Blk w49 x L 101 := fun x L hx => Blk.keep (htd x L hx) hk50 id
 replace hK0 := hK0.tn hk50
 replace ho45 := ho45.keep hk50 nk
 have hbv51lt := hbv51.lt
 have hbw52lt := hbw52.lt
 have hbt53lt := hbt53.lt
 refine Oe <| V_block ?_
 obtain ⟨A55, cap55, hva55⟩ := Vot.arr ho45
 have hal55 := VotA.lenA hva55
 have hvl9 := vrow_len (s.setR a t { (s.rc a t) with got := ⟨i64.wrap ((((s.rc a t)).got.v) + wt.v), i64.wrap ((((s.rc a t)).got.c) + wt.c)⟩ }) a t
 refine Vp [(4, pt b1),(8, pt b26),(9, pt b33),(38, .func (.func 94) #[] #[pt bv51, pt bw52, pt bt53])] ?_
 have hN0 : w.heap.size ≤ w49.heap.size := Keep.size hK0
 refine V_range2 (gf := 94) (caps := #[pt bv51, pt bw52, pt bt53]) (m := (vrow (s.setR a t { (s.rc a t) with got := ⟨i64.wrap ((((s.rc a t)).got.v) + wt.v), i64.wrap ((((s.rc a t)).got.c) + wt.c)⟩ }) a t).length) (by kernel_rfl) (by kernel_rfl) (by kernel_rfl) (votes1_iter bv51 bw52 bt53 v P8.gv P8.gr cap55 P8.pp A55 (s.setR a t { (s.rc a t) with got := ⟨i64.wrap ((((s.rc a t)).got.v) + wt.v), i64.wrap ((((s.rc a t)).got.c) + wt.c)⟩ }) a t (by omega)) (⟨VotA.grat hva55, VotA.ok hva55 rfl (fun _ => rfl) hbv51 hbw52 hbt53⟩) (fun W W' h k => ⟨h.1.quiet k, h.2.quiet k⟩) (GV.enc2_size _) (fun M1 k W => (Blk W b1 [pt v] 31) ∧ (Blk W b3 (Wgt.cells wt) 54) ∧ (Blk W b26 [pt q7] 95) ∧ (Blk W b33 [nt (((s.rc a t)).got.v), nt (((s.rc a t)).got.c)] 54) ∧ (Blk W bv51 [pt v] 31) ∧ (Blk W bw52 [nt a] 3) ∧ (Blk W bt53 [nt t] 3) ∧ (∀ x L, Blk w x L 101 → Blk W x L 101) ∧ (Keep F w W) ∧ (VotA A55 cap55 F9 W v P8 (retally (s.rc a t).got (gotW (s.rc a t).got wt) (s.setR a t { (s.rc a t) with got := ⟨i64.wrap ((((s.rc a t)).got.v) + wt.v), i64.wrap ((((s.rc a t)).got.c) + wt.c)⟩ }) ((vrow (s.setR a t { (s.rc a t) with got := ⟨i64.wrap ((((s.rc a t)).got.v) + wt.v), i64.wrap ((((s.rc a t)).got.c) + wt.c)⟩ }) a t).take k)))) (fun M1 c k W => False) (fun M1 k W W' h hk => by obtain ⟨jb1, jb3, jb26, jb33, jbv51, jbw52, jbt53, jhtd, jhK0, jv9⟩ := h; exact ⟨jb1.quiet hk, jb3.quiet hk, jb26.quiet hk, jb33.quiet hk, jbv51.quiet hk, jbw52.quiet hk, jbt53.quiet hk, (fun x L hx => Blk.quiet (jhtd x L hx) hk), jhK0.quiet hk (by omega),(VotA.quiet jv9 hk)⟩) (fun _ _ _ _ _ h _ => h.elim) (fun M1 hM1 => ⟨hb1, hb3, hb26_31, hb33_38, hbv51, hbw52, hbt53, htd, hK0, hva55⟩) (fun M1 k W h => by obtain ⟨jb1, jb3, jb26, jb33, jbv51, jbw52, jbt53, jhtd, jhK0, jv9⟩ := h; exact (VotA.ok jv9 (retally_inv (s.rc a t).got (gotW (s.rc a t).got wt) ((vrow (s.setR a t { (s.rc a t) with got := ⟨i64.wrap ((((s.rc a t)).got.v) + wt.v), i64.wrap ((((s.rc a t)).got.c) + wt.c)⟩ }) a t).take k) (s.setR a t { (s.rc a t) with got := ⟨i64.wrap ((((s.rc a t)).got.v) + wt.v), i64.wrap ((((s.rc a t)).got.c) + wt.c)⟩ })).1 (retally_inv (s.rc a t).got (gotW (s.rc a t).got wt) ((vrow (s.setR a t { (s.rc a t) with got := ⟨i64.wrap ((((s.rc a t)).got.v) + wt.v), i64.wrap ((((s.rc a t)).got.c) + wt.c)⟩ }) a t).take k) (s.setR a t { (s.rc a t) with got := ⟨i64.wrap ((((s.rc a t)).got.v) + wt.v), i64.wrap ((((s.rc a t)).got.c) + wt.c)⟩ })).2.2 jbv51 jbw52 jbt53)) ?_ ?_ (fun _ _ _ _ _ _ _ _ h _ => h.elim)
 ·
  intro lp D M1 k W hD hl hM hMW hkm ⟨jb1, jb3, jb26, jb33, jbv51, jbw52, jbt53, jhtd, jhK0, jv9⟩ ⟨rr, hrr⟩ hDD
  have hzjhK0 := Keep.size jhK0
  have hb1lt := jb1.lt
  have hb3lt := jb3.lt
  have hb26lt := jb26.lt
  have hb33lt := jb33.lt
  have hbv51lt := jbv51.lt
  have hbw52lt := jbw52.lt
  have hbt53lt := jbt53.lt
  obtain ⟨x, hx⟩ : ∃ x, (vrow (s.setR a t { (s.rc a t) with got := ⟨i64.wrap ((((s.rc a t)).got.v) + wt.v), i64.wrap ((((s.rc a t)).got.c) + wt.c)⟩ }) a t)[k]? = some x := ⟨_, List.getElem?_eq_getElem (by omega)⟩
  rw [GV.enc2_at hx]
  obtain ⟨hri1, hri2, hri3⟩ := retally_inv (s.rc a t).got (gotW (s.rc a t).got wt) ((vrow (s.setR a t { (s.rc a t) with got := ⟨i64.wrap ((((s.rc a t)).got.v) + wt.v), i64.wrap ((((s.rc a t)).got.c) + wt.c)⟩ }) a t).take k) (s.setR a t { (s.rc a t) with got := ⟨i64.wrap ((((s.rc a t)).got.v) + wt.v), i64.wrap ((((s.rc a t)).got.c) + wt.c)⟩ })
  have hstp := retally_step (was := (s.rc a t).got) (now := (gotW (s.rc a t).got wt)) (s := (s.setR a t { (s.rc a t) with got := ⟨i64.wrap ((((s.rc a t)).got.v) + wt.v), i64.wrap ((((s.rc a t)).got.c) + wt.c)⟩ })) hx
  obtain ⟨dp58, hF57, hm56⟩ := Vot.recO (VotA.vot jv9) hgc12
  rw [show (retally (s.rc a t).got (gotW (s.rc a t).got wt) (s.setR a t { (s.rc a t) with got := ⟨i64.wrap ((((s.rc a t)).got.v) + wt.v), i64.wrap ((((s.rc a t)).got.c) + wt.c)⟩ }) ((vrow (s.setR a t { (s.rc a t) with got := ⟨i64.wrap ((((s.rc a t)).got.v) + wt.v), i64.wrap ((((s.rc a t)).got.c) + wt.c)⟩ }) a t).take k)).rc a t = r46 from (show (retally (s.rc a t).got (gotW (s.rc a t).got wt) (s.setR a t { (s.rc a t) with got := ⟨i64.wrap ((((s.rc a t)).got.v) + wt.v), i64.wrap ((((s.rc a t)).got.c) + wt.c)⟩ }) ((vrow (s.setR a t { (s.rc a t) with got := ⟨i64.wrap ((((s.rc a t)).got.v) + wt.v), i64.wrap ((((s.rc a t)).got.c) + wt.c)⟩ }) a t).take k)).rc a t = _ from by rw [hri2]; exact ((updR_self _ _ _ _).trans hr46.symm))] at hm56
  have hq7lt := hm56.lt
  have hloq7 := lt20 _ hF57
  have hoq7 := own21 _ hF57
  refine Vp [(4, pt b1),(8, pt b26),(9, pt b33),(39, nt x.1),(40, .agg (Vt.cells x.2).toArray)] ?_
  have hfen : Keep (fen w49.heap.size M1) W W := Keep.refl _ _
  have hzhfen := Keep.size hfen
  refine Vs [(4, pt b1),(8, pt b26),(9, pt b33),(10, nt x.1),(40, .agg (Vt.cells x.2).toArray)] <| V_region <| OI_alloc 23 (.agg #[nt 0, .bool false, nt 0, nt 0, nt 0, nt 0]) [nt 0, .bool false, nt 0, nt 0, nt 0, nt 0] (some 11) (by kernel_rfl) (by kernel_rfl) (by kernel_rfl) ?_
  intro b59 w59 e59 hb59 k59 z59
  have hsz60 := Keep.size k59
  replace jb1 := jb1.k0 k59
  replace jb3 := jb3.k0 k59
  replace jb26 := jb26.k0 k59
  replace jb33 := jb33.k0 k59
  replace jbv51 := jbv51.k0 k59
  replace jbw52 := jbw52.k0 k59
  replace jbt53 := jbt53.k0 k59
  replace hm56 := hm56.k0 k59
  replace jhtd : ∀ x L, Blk w x L 101 → Blk w59 x L 101 := fun x L hx => Blk.keep (jhtd x L hx) k59 id
  replace jhK0 := jhK0.tn k59
  replace jv9 := VotA.keep jv9 k59 nk
  replace hfen := hfen.tn k59
  have hb59lt := hb59.lt
  refine Sg 0 (Vt.cells x.2) hb59 (Vt.len _) (Vt.one _) ?_
  intro w61 hb59_64 hk62 hz63
  replace hb59_64 : Blk w61 b59 (Vt.cells x.2) 23 := (by rwa [over_whole (by rw [Vt.len]; rfl)] at hb59_64)
  have hsz65 := Keep.size hk62
  replace jb1 := jb1.k1 hk62
  replace jb3 := jb3.k1 hk62
  replace jb26 := jb26.k1 hk62
  replace jb33 := jb33.k1 hk62
  replace jbv51 := jbv51.k1 hk62
  replace jbw52 := jbw52.k1 hk62
  replace jbt53 := jbt53.k1 hk62
  replace hm56 := hm56.k1 hk62
  replace jhtd : ∀ x L, Blk w x L 101 → Blk w61 x L 101 := fun x L hx => Blk.keep (jhtd x L hx) hk62 (Blk.ne (jhtd x L hx) hb59 (by decide))
  replace jhK0 := Keep.fr jhK0 hk62
  replace jv9 := VotA.keep jv9 hk62 (fun q hq hs => by have hs : q = b59 := hs; have g0 := own21 q hq; have g1 := lt20 q hq; omega)
  replace hfen := Keep.fresh hfen hk62 (by intro i hi hs; have hs2 : i = b59 := hs; show _ ∨ _; omega)
  refine OI_end rfl <| X_begin2 hfen ?_
  intro W2 hk2 ⟨r2, hr2⟩ hD2
  have hsz66 := Keep.size hk2
  replace jb1 := Blk.quiet jb1 hk2
  replace jb3 := Blk.quiet jb3 hk2
  replace jb26 := Blk.quiet jb26 hk2
  replace jb33 := Blk.quiet jb33 hk2
  replace jbv51 := Blk.quiet jbv51 hk2
  replace jbw52 := Blk.quiet jbw52 hk2
  replace jbt53 := Blk.quiet jbt53 hk2
  replace hm56 := Blk.quiet hm56 hk2
  replace hb59_64 := Blk.quiet hb59_64 hk2
  replace jhtd : ∀ x L, Blk w x L 101 → Blk W2 x L 101 := fun x L hx => Blk.quiet (jhtd x L hx) hk2
  replace jhK0 := Keep.quiet jhK0 hk2 (by omega)
  replace jv9 := VotA.quiet jv9 hk2
  have hzhk2 := Keep.size hk2
  have hfenb : Keep (fen w49.heap.size M1) W2 W2 := Keep.refl _ _
  have hzhfenb := Keep.size hfenb
  refine V_block <| Vr <| Lr 0 (pt v) jb1 <| On 2 [8, 9, 11, 41, 42] ?_
  rcases Vot.pollcase (VotA.vot jv9) x.1 with ⟨hpn67, hpc67⟩ | ⟨i67, b67, q67, hpr67, hpi67, hpp67, hps67, hpa67⟩
  · exact absurd (VotA.pthere jv9 hri1 hx) (by rw [hpn67]; rintro ⟨_, h⟩; cases h)
  ·
   refine Ok (kl 46 #[(.tmp 41),(.tmp 42)] #[31, 3]) 46 #[pt v, nt x.1] (some 43) ((by rw [hpr67]; exact poll_some F9 v P8 (retally (s.rc a t).got (gotW (s.rc a t).got wt) (s.setR a t { (s.rc a t) with got := ⟨i64.wrap ((((s.rc a t)).got.v) + wt.v), i64.wrap ((((s.rc a t)).got.c) + wt.c)⟩ }) ((vrow (s.setR a t { (s.rc a t) with got := ⟨i64.wrap ((((s.rc a t)).got.v) + wt.v), i64.wrap ((((s.rc a t)).got.c) + wt.c)⟩ }) a t).take k)) i67 b67 _ (VotA.vot jv9) hpi67 hpp67)) ?_
   rintro _ w68 ⟨rfl, hk69⟩
   refine ⟨_, rfl, ?_⟩
   have hsz70 := Keep.size hk69
   replace jb1 := jb1.k0 hk69
   replace jb3 := jb3.k0 hk69
   replace jb26 := jb26.k0 hk69
   replace jb33 := jb33.k0 hk69
   replace jbv51 := jbv51.k0 hk69
   replace jbw52 := jbw52.k0 hk69
   replace jbt53 := jbt53.k0 hk69
   replace hm56 := hm56.k0 hk69
   replace hb59_64 := hb59_64.k0 hk69
   replace jhtd : ∀ x L, Blk w x L 101 → Blk w68 x L 101 := fun x L hx => Blk.keep (jhtd x L hx) hk69 id
   replace jhK0 := jhK0.tn hk69
   replace jv9 := VotA.keep jv9 hk69 nk
   replace hfenb := hfenb.tn hk69
   obtain ⟨hm71, hF72⟩ := Vot.pollB (VotA.vot jv9) hpp67 hps67
   have hb67lt := hm71.lt
   have hlob67 := lt20 _ hF72
   have hob67 := own21 _ hF72
   have hneb67q7 : b67 ≠ q7 := Blk.ne hm71 hm56 (by decide)
   refine On 4 [8, 9, 11, 12] <| Oer <| On 3 [8, 9, 11, 12, 46] <| Lr 4 (nt ((q67).state)) hm71 <| Ose [(8, pt b26),(9, pt b33),(11, pt b59),(12, pt b67),(48, .bool (decide ((q67).state = 0)))] <| Vi ((q67).state = 0) (fun hc73 => ?_) (fun hc73 => ?_)
   ·
    refine V_draws (acts [7, 8, 14, 15, 16, 19]) none_ [[5, 6, 7, 1, 2, 3, 4, 8, 9, 10, 11, 12, 13, 14, 15, 16, 0, 17, 18, 19]] (by kernel_rfl) (by repeat first | exact (by first | exact sure_postM | exact sure_rQ2 | exact sure_no) | refine sure_then ?_ | refine sure_block ?_ | refine sure_join ?_) (by kernel_rfl) ?_
    intro w75 hk74 he76 L hL77
    have hsz78 := Keep.size hk74
    replace jb26 := jb26.k0 hk74
    replace jb33 := jb33.k0 hk74
    replace hm56 := hm56.k0 hk74
    replace hb59_64 := hb59_64.k0 hk74
    replace hm71 := hm71.k0 hk74
    replace jhtd : ∀ x L, Blk w x L 101 → Blk w75 x L 101 := fun x L hx => Blk.keep (jhtd x L hx) hk74 id
    replace jhK0 := jhK0.tn hk74
    replace jv9 := VotA.keep jv9 hk74 nk
    replace hfenb := hfenb.tn hk74
    have qjb26 := jb26
    have qjb33 := jb33
    have qhm56 := hm56
    have qhb59_64 := hb59_64
    have qhm71 := hm71
    have K79 : Keep none_ w75 w75 := Keep.refl _ _
    obtain rfl := List.mem_singleton.1 hL77
    refine Ma 0 (Vt.cells x.2) 6 qhb59_64 id (take_all (Vt.len _)) (Vt.len _) <| Ma 0 [nt (((s.rc a t)).got.v), nt (((s.rc a t)).got.c)] 2 qjb33 id rfl rfl <| Hg (cvGain_spec x.2 (((s.rc a t)).got) _) ?_
    rintro _ w80 ⟨rfl, hk81⟩
    have K82 := K79.tr (Keep.ofNone hk81)
    refine ⟨_, rfl, K82, ?_⟩
    have hzK82 := Keep.size K82
    have hsz83 := Keep.size hk81
    replace jhtd : ∀ x L, Blk w x L 101 → Blk w80 x L 101 := fun x L hx => Blk.keep (jhtd x L hx) hk81 id
    replace jhK0 := jhK0.tn hk81
    replace jv9 := VotA.keep jv9 hk81 nk
    replace hfenb := hfenb.tn hk81
    refine Gn [4, 8, 9, 10, 11, 12, 13, 14, 15, 16, 0, 17, 18, 19] [8, 11, 12, 52, 56] <| Ma 1 [nt ((q67).t.a), nt ((q67).t.n), nt ((q67).t.s)] 3 qhm71 id rfl rfl <| Hg (cvSub_spec ((q67).t) (gainT x.2 (((s.rc a t)).got)) _) ?_
    rintro _ w84 ⟨rfl, hk85⟩
    have K86 := K82.tr (Keep.ofNone hk85)
    refine ⟨_, rfl, K86, ?_⟩
    have hzK86 := Keep.size K86
    have hsz87 := Keep.size hk85
    replace jhtd : ∀ x L, Blk w x L 101 → Blk w84 x L 101 := fun x L hx => Blk.keep (jhtd x L hx) hk85 id
    replace jhK0 := jhK0.tn hk85
    replace jv9 := VotA.keep jv9 hk85 nk
    replace hfenb := hfenb.tn hk85
    refine Ma 0 (Vt.cells x.2) 6 qhb59_64 id (take_all (Vt.len _)) (Vt.len _) <| Mr 0 (pt q7) qjb26 <| Gn [13, 14, 15, 16, 0, 17, 18, 19] [12, 57, 58, 61] <| Ma 1 [nt ((r46).got.v), nt ((r46).got.c)] 2 qhm56 id rfl rfl <| Hg (cvGain_spec x.2 ((r46).got) _) ?_
    rintro _ w88 ⟨rfl, hk89⟩
    have K90 := K86.tr (Keep.ofNone hk89)
    refine ⟨_, rfl, K90, ?_⟩
    have hzK90 := Keep.size K90
    have hsz91 := Keep.size hk89
    replace jhtd : ∀ x L, Blk w x L 101 → Blk w88 x L 101 := fun x L hx => Blk.keep (jhtd x L hx) hk89 id
    replace jhK0 := jhK0.tn hk89
    replace jv9 := VotA.keep jv9 hk89 nk
    replace hfenb := hfenb.tn hk89
    refine GI_slit (E := 43) (zv := .agg #[nt 0, nt 0, nt 0]) (sz := 3) (by_ := 24) 153 1 #[(0, (Operand.tmp 63))] [.agg (Tly.cells (gainT x.2 ((r46).got))).toArray] (Tly.cells (gainT x.2 ((r46).got))) (some 64) (by kernel_rfl) (by kernel_rfl) K90 (by kernel_rfl) (by kernel_rfl) (by omega) rfl (by omega) (by intro v hv; obtain rfl := List.mem_singleton.1 hv; show (Tly.cells (gainT x.2 ((r46).got))).toArray.size = 3; simp [Tly.len]) (by kernel_rfl) (by show (Tly.cells (gainT x.2 ((r46).got))).toArray.toList ++ [] = _; simp) ?_
    intro b92 w92 e92 hb92 k92 z92 K93
    have hsz94 := Keep.size k92
    replace jhtd : ∀ x L, Blk w x L 101 → Blk w92 x L 101 := fun x L hx => Blk.keep (jhtd x L hx) k92 id
    replace jhK0 := jhK0.tn k92
    replace jv9 := VotA.keep jv9 k92 nk
    replace hfenb := hfenb.tn k92
    have hb92lt := hb92.lt
    refine Gk (kl 58 #[(.tmp 57),(.tmp 64)] #[43, 153]) 58 #[.agg (Tly.cells (subT ((q67).t) (gainT x.2 (((s.rc a t)).got)))).toArray, sl_ b92 0 1 1] (some 65) (cvAdd1 b92 (subT ((q67).t) (gainT x.2 (((s.rc a t)).got))) (gainT x.2 ((r46).got)) _ _ hb92) ?_
    rintro _ w97 ⟨rfl, hk98⟩
    have K99 := K93.tr (Keep.ofNone hk98)
    refine ⟨_, rfl, K99, ?_⟩
    have hzK99 := Keep.size K99
    have hsz100 := Keep.size hk98
    replace jb1 := jb1.k0 (((((hk74.tr hk81).tr hk85).tr hk89).tr k92).tr hk98)
    replace jb3 := jb3.k0 (((((hk74.tr hk81).tr hk85).tr hk89).tr k92).tr hk98)
    replace jb26 := jb26.k0 ((((hk81.tr hk85).tr hk89).tr k92).tr hk98)
    replace jb33 := jb33.k0 ((((hk81.tr hk85).tr hk89).tr k92).tr hk98)
    replace jbv51 := jbv51.k0 (((((hk74.tr hk81).tr hk85).tr hk89).tr k92).tr hk98)
    replace jbw52 := jbw52.k0 (((((hk74.tr hk81).tr hk85).tr hk89).tr k92).tr hk98)
    replace jbt53 := jbt53.k0 (((((hk74.tr hk81).tr hk85).tr hk89).tr k92).tr hk98)
    replace hm71 := hm71.k0 ((((hk81.tr hk85).tr hk89).tr k92).tr hk98)
    replace jhtd : ∀ x L, Blk w x L 101 → Blk w97 x L 101 := fun x L hx => Blk.keep (jhtd x L hx) hk98 id
    replace jhK0 := jhK0.tn hk98
    replace jv9 := VotA.keep jv9 hk98 nk
    replace hfenb := hfenb.tn hk98
    refine Gs [19] [(65, .agg (Tly.cells (addT (subT ((q67).t) (gainT x.2 (((s.rc a t)).got))) (gainT x.2 ((r46).got)))).toArray),(67, po_ b67 1)] <| GI_final 19 (by kernel_rfl) (by kernel_rfl) <| Sg 1 (Tly.cells (addT (subT ((q67).t) (gainT x.2 (((s.rc a t)).got))) (gainT x.2 ((r46).got)))) hm71 (Tly.len _) (Tly.one _) ?_
    intro w101 hn104 hk102 hz103
    replace hn104 : Blk w101 b67 (PollS.cells { q67 with t := (addT (subT ((q67).t) (gainT x.2 (((s.rc a t)).got))) (gainT x.2 ((r46).got))) }) 89 := hn104
    have hsz105 := Keep.size hk102
    replace jb1 := jb1.keep hk102 (by show ¬ (b1 = b67); omega)
    replace jb3 := jb3.keep hk102 (by show ¬ (b3 = b67); omega)
    replace jb26 := jb26.keep hk102 (by show ¬ (b26 = b67); omega)
    replace jb33 := jb33.keep hk102 (by show ¬ (b33 = b67); omega)
    replace jbv51 := jbv51.keep hk102 (by show ¬ (bv51 = b67); omega)
    replace jbw52 := jbw52.keep hk102 (by show ¬ (bw52 = b67); omega)
    replace jbt53 := jbt53.keep hk102 (by show ¬ (bt53 = b67); omega)
    replace jhtd : ∀ x L, Blk w x L 101 → Blk w101 x L 101 := fun x L hx => Blk.keep (jhtd x L hx) hk102 (Blk.ne (jhtd x L hx) hm71 (by decide))
    replace jhK0 := Keep.fresh jhK0 hk102 (fun i hi hs => by have hs : F9 i := (by rw [show i = b67 from hs]; exact hF72); rcases rel22 i hs with h | h; exact h; (exfalso; omega))
    replace hfenb := Keep.fresh hfenb hk102 (by intro i hi hs; have hs2 : i = b67 := hs; show _ ∨ _; omega)
    obtain ⟨tv107, htv107⟩ : ∃ t9 : Tly, t9 = (addT (subT ((q67).t) (gainT x.2 (((s.rc a t)).got))) (gainT x.2 ((r46).got))) := ⟨_, rfl⟩
    rw [← htv107] at hn104
    have ho106 := VotA.setPoll jv9 hpp67 hps67 hk102 (show Blk _ _ (PollS.cells { q67 with t := tv107 }) _ from hn104)
    have hs108 : ((retally (s.rc a t).got (gotW (s.rc a t).got wt) (s.setR a t { (s.rc a t) with got := ⟨i64.wrap ((((s.rc a t)).got.v) + wt.v), i64.wrap ((((s.rc a t)).got.c) + wt.c)⟩ }) ((vrow (s.setR a t { (s.rc a t) with got := ⟨i64.wrap ((((s.rc a t)).got.v) + wt.v), i64.wrap ((((s.rc a t)).got.c) + wt.c)⟩ }) a t).take k)).setP i67 { q67 with t := tv107 }).ps[i67]? = some (some { q67 with t := tv107 }) := List.getElem?_set_self (List.getElem?_eq_some_iff.1 hps67).1
    have hb67lt := hn104.lt
    refine OI_end rfl <| X_block ?_
    have hnow : r46.got = (gotW (s.rc a t).got wt) := by rw [hr46]; rfl
    rw [htv107, hnow] at ho106
    exact fun a _ => ⟨hfenb, jb1, jb3, jb26, jb33, jbv51, jbw52, jbt53, jhtd, jhK0, by rw [hstp]; unfold retally1; rw [hpr67, Int.toNat_natCast, hps67]; dsimp only; rw [if_pos hc73]; exact ho106⟩
   refine V_skip <| X_block ?_
   exact fun a _ => ⟨hfenb, jb1, jb3, jb26, jb33, jbv51, jbw52, jbt53, jhtd, jhK0, by rw [hstp]; unfold retally1; rw [hpr67, Int.toNat_natCast, hps67]; dsimp only; rw [if_neg hc73]; exact jv9⟩
 ·
  intro D M1 W hD hM ⟨jb1, jb3, jb26, jb33, jbv51, jbw52, jbt53, jhtd, jhK0, jv9⟩ hDD
  have hzjhK0 := Keep.size jhK0
  have hb1lt := jb1.lt
  have hb3lt := jb3.lt
  have hb26lt := jb26.lt
  have hb33lt := jb33.lt
  have hbv51lt := jbv51.lt
  have hbw52lt := jbw52.lt
  have hbt53lt := jbt53.lt
  rw [List.take_length] at jv9
  refine X_block ?_
  have hfin : getsS s a t wt = (retally (s.rc a t).got (gotW (s.rc a t).got wt) (s.setR a t { (s.rc a t) with got := ⟨i64.wrap ((((s.rc a t)).got.v) + wt.v), i64.wrap ((((s.rc a t)).got.c) + wt.c)⟩ }) (vrow (s.setR a t { (s.rc a t) with got := ⟨i64.wrap ((((s.rc a t)).got.v) + wt.v), i64.wrap ((((s.rc a t)).got.c) + wt.c)⟩ }) a t)) := rfl
  exact leave1 (.tuple #[]) (.inr rfl) hDD (fun w' hk => ⟨res_tmps rfl, ⟨rfl, P8, hpp13, hgv14, hmn15, (fun x L hx => Blk.quiet (jhtd x L hx) hk), ⟨F9, by rw [hfin]; exact Vot.quiet (VotA.vot jv9) hk, rel22⟩, Keep.quiet jhK0 hk (by omega)⟩⟩)
end Go.Al
namespace Go.Al
open Go Go.RowKit Go.Proofs
def TrkOk (s : VS) : Prop := ∀ (i : Nat) q, s.ps[i]? = some (some q) → 0 ≤ q.track ∧ q.track < 4
def voteE (xs : List Acc) (s : VS) (who ref : Int) (x : Vt) : Int := if ¬ (0 ≤ who ∧ who ≤ 9) ∨ ¬ okV x then 1 else match pollAt s ref with
  | none => 4
  | some q => if ¬ q.state = 0 then 9 else if (s.rc who q.track).d.isSome = true then 5 else if capI x > (acct xs who).free then 6 else if (GV.getC who ref s.cs).isSome = false ∧ (((vrow s who q.track).length : Nat) : Int) ≥ 6 then 3 else 0
def voteT (s : VS) (who ref : Int) (x : Vt) (q : PollS) : Tly := addT (if (GV.getC who ref s.cs).isSome = true then subT q.t (gainT ((GV.getC who ref s.cs).getD Vt.zero) (s.rc who q.track).got) else q.t) (gainT x (s.rc who q.track).got)
def voteS (xs : List Acc) (s : VS) (who ref : Int) (x : Vt) : VS := if voteE xs s who ref x = 0 then (match pollAt s ref with | none => s | some q => { s.setP ref.toNat { q with t := voteT s who ref x q } with cs := GV.setC who ref x s.cs }) else s
def voteC (xs : List Acc) (cs : List Ci) (s : VS) (who ref : Int) (x : Vt) : List Ci := if voteE xs s who ref x = 0 then (match pollAt s ref with | none => cs | some q => raiseC cs who q.track (capI x)) else cs
set_option maxHeartbeats 1000000 in
theorem vote_at (F G : Nat → Prop) (v l : Nat) (P : VP) (s : VS) (xs : List Acc) (cs : List Ci) (who ref : Int) (x : Vt) (w : World) (h : Vot F w v P s) (hl : Led G w l xs cs) (hdis : ∀ q, F q → ¬ G q) (htr : TrkOk s) (hmax : cs.length < 100000) : Calls Tryz.prog 18 #[pt v, pt l, nt who, nt ref, .agg x.cells.toArray] w fun e w' => e = .returned (nt (voteE xs s who ref x)) ∧ (∃ F' G', VotE F' w' v (voteS xs s who ref x) ∧ Led G' w' l xs (voteC xs cs s who ref x) ∧ (∀ q, F' q → F q ∨ w.heap.size ≤ q) ∧ (∀ q, G' q → G q ∨ w.heap.size ≤ q) ∧ (∀ q, F' q → ¬ G' q)) ∧ Keep (fun q => F q ∨ G q) w w' := by
 have hFlt := Vot.lt h
 have hvlt := hFlt _ (Vot.at_ h)
 have hFo : ∀ q, F q → 0 ≤ q := fun q _ => Nat.zero_le q
 have hFr : ∀ q, F q → F q ∨ w.heap.size ≤ q := fun _ h => .inl h
 have hGlt := Led.lt hl
 have hllt := hGlt _ (Led.at_ hl)
 have hGo : ∀ q, G q → 0 ≤ q := fun q _ => Nat.zero_le q
 have hGr : ∀ q, G q → G q ∨ w.heap.size ≤ q := fun _ h => .inl h
 obtain ⟨hvl0, hvb⟩ := Vot.vblk h
 have hFv := Vot.at_ h
 have hK0 : Keep (fun q => F q ∨ G q) w w := Keep.refl _ _
 refine eV ?_
 refine Vr <| OI_box 23 (.tmp 4) (.agg (Vt.cells x).toArray) (Vt.cells x) (some 9) (by kernel_rfl) (by kernel_rfl) rfl ?_
 intro b1 w1 e1 hb1 k1 z1
 have hsz2 := Keep.size k1
 replace hvb := hvb.k0 k1
 replace h := h.keep k1 nk
 replace hl := hl.keep k1 nk
 replace hK0 := hK0.tn k1
 have hb1lt := hb1.lt
 refine On 2 [0, 1, 2, 3, 9] <| Oe <| V_seq <| Vr <| On 8 [0, 1, 2, 3, 9, 21, 22] <| Kq (isAcc_spec who _) <| On 12 [0, 1, 2, 3, 9, 26] ?_
 by_cases hg8 : 0 ≤ who ∧ who ≤ 9
 ·
  refine Nt 26 hg8 <| La 0 (Vt.cells x) 6 hb1 (take_all (Vt.len _)) (Vt.len _) <| Kk (cvIs_spec x _) fun w11 hk12 _ => ?_
  replace hvb := hvb.k0 hk12
  replace hb1 := hb1.k0 hk12
  replace h := h.keep hk12 nk
  replace hl := hl.keep hk12 nk
  replace hK0 := hK0.tn hk12
  refine Oen [0, 1, 2, 3, 9, 30] <| V_not (okV x) (by kernel_rfl) (fun hc14 => ?_) (fun hc14 => ?_)
  ·
   refine Vn [10] <| Rt ?_
   have hE15 : voteE xs s who ref x = 1 := by unfold voteE; rw [if_pos (.inr (hc14))]
   exact Xr (nt 1) ⟨by rw [hE15], ⟨F, G, ⟨_, by rw [show voteS xs s who ref x = s from by unfold voteS; rw [hE15, if_neg (by decide)]]; exact h⟩, by rw [show voteC xs cs s who ref x = cs from by unfold voteC; rw [hE15, if_neg (by decide)]]; exact hl, hFr, hGr, hdis⟩, hK0⟩
  refine Vsk <| Vr <| On 2 [0, 1, 2, 3, 9, 31, 32] ?_
  rcases Vot.pollcase h ref with ⟨hpn16, hpc16⟩ | ⟨i16, b16, q16, hpr16, hpi16, hpp16, hps16, hpa16⟩
  ·
   refine Kk (poll_none F v P s ref _ h hpc16) fun w19 hk20 _ => ?_
   replace h := h.keep hk20 nk
   replace hl := hl.keep hk20 nk
   replace hK0 := hK0.tn hk20
   refine On 4 [0, 1, 2, 3, 9, 11] <| Oe <| V_seq <| V_block <| Vn [0, 1, 2, 3, 9, 11, 34] <| Vo <| Vn [10] <| V_ret <| X_ret_block <| X_ret_then ?_
   have hE22 : voteE xs s who ref x = 4 := by unfold voteE; rw [if_neg (by rintro (h9 | h9); exact h9 hg8; exact h9 hc14)]; rw [hpn16]
   exact Xr (nt 4) ⟨by rw [hE22], ⟨F, G, ⟨_, by rw [show voteS xs s who ref x = s from by unfold voteS; rw [hE22, if_neg (by decide)]]; exact h⟩, by rw [show voteC xs cs s who ref x = cs from by unfold voteC; rw [hE22, if_neg (by decide)]]; exact hl, hFr, hGr, hdis⟩, hK0⟩
  ·
   refine Ok (kl 46 #[(.tmp 31),(.tmp 32)] #[31, 3]) 46 #[pt v, nt ref] (some 33) ((by rw [hpr16]; exact poll_some F v P s i16 b16 _ h hpi16 hpp16)) ?_
   rintro _ w25 ⟨rfl, hk26⟩
   refine ⟨_, rfl, ?_⟩
   have hsz27 := Keep.size hk26
   replace hvb := hvb.k0 hk26
   replace hb1 := hb1.k0 hk26
   replace h := h.keep hk26 nk
   replace hl := hl.keep hk26 nk
   replace hK0 := hK0.tn hk26
   obtain ⟨hm28, hF29⟩ := Vot.pollB h hpp16 hps16
   have hb16lt := hm28.lt
   have hlob16 := hFlt _ hF29
   have hob16 := hFo _ hF29
   have hneb16v : b16 ≠ v := Blk.ne hm28 hvb (by decide)
   refine On 4 [0, 1, 2, 3, 9, 11] <| Oe <| V_seq <| V_block <| Vn [0, 1, 2, 3, 9, 11, 34] <| Vf <| Vr <| On 3 [0, 1, 2, 3, 9, 11, 40] <| Lr 4 (nt ((q16).state)) hm28 <| Oen [0, 1, 2, 3, 9, 11, 37] <| V_not ((q16).state = 0) (by kernel_rfl) (fun hc30 => ?_) (fun hc30 => ?_)
   ·
    refine Vn [10] <| V_ret <| X_ret_block <| X_ret_then ?_
    have hE31 : voteE xs s who ref x = 9 := by unfold voteE; rw [if_neg (by rintro (h9 | h9); exact h9 hg8; exact h9 hc14)]; rw [hpa16]; dsimp only; rw [if_pos hc30]
    exact Xr (nt 9) ⟨by rw [hE31], ⟨F, G, ⟨_, by rw [show voteS xs s who ref x = s from by unfold voteS; rw [hE31, if_neg (by decide)]]; exact h⟩, by rw [show voteC xs cs s who ref x = cs from by unfold voteC; rw [hE31, if_neg (by decide)]]; exact hl, hFr, hGr, hdis⟩, hK0⟩
   refine V_skip <| X_block <| X_then <| Vr <| On 5 [0, 1, 2, 3, 9, 11, 43, 44, 47] <| Lr 0 (nt ((q16).track)) hm28 ?_
   rcases hd32 : (s.rc who ((q16).track)).d with _ | d33
   ·
    refine Kg (record_spec F v P s who ((q16).track) _ h (by omega) (htr _ _ (by assumption))) ?_
    rintro _ w48 ⟨q38, P39, rfl, hgc43, hpp44, hgv45, hmn46, hdl47, ⟨F40, ho41, hfr42⟩, hk49⟩
    refine ⟨_, rfl, ?_⟩
    have hsz50 := Keep.size hk49
    replace hb1 := hb1.keep hk49 (fun hs => by have h1 := hFo _ hs; have h2 := hFlt _ hs; omega)
    replace hl := hl.keep hk49 (fun q hq hs => hdis q hs hq)
    replace hK0 := frl hK0 hk49 hFr
    have own52 : ∀ q, F40 q → 0 ≤ q ∧ q ≠ b1 := fun q hq => by rcases hfr42 q hq with h | h; (have h1 := hFo q h; have h2 := hFlt q h; omega); omega
    have lt51 := Vot.lt ho41
    have rel53 : ∀ q, F40 q → F q ∨ w.heap.size ≤ q := fun q hq => by rcases hfr42 q hq with h | h; exact hFr q h; exact .inr (by omega)
    have dis54 : ∀ q, F40 q → ¬ G q := fun q h1 h2 => by rcases hfr42 q h1 with h | h; exact hdis q h h2; (have h4 := hGlt q h2; omega)
    have hqb16w48 := (show P39.pp[i16]? = some (some ⟨b16, 0, none⟩) from by rw [hpp44]; exact hpp16)
    have hgq38lt := lt51 _ (Vot.at_ ho41)
    obtain ⟨hvlhm55, hm55⟩ := Vot.vblk ho41
    have hF56 := Vot.at_ ho41
    have hvlt := hm55.lt
    have hlov := lt51 _ hF56
    have hov := own52 _ hF56
    obtain ⟨hm57, hF58⟩ := Vot.pollB ho41 hqb16w48 hps16
    have hb16lt := hm57.lt
    have hlob16 := lt51 _ hF58
    have hob16 := own52 _ hF58
    obtain ⟨hF60, hm59⟩ := Vot.recN ho41 hgc43 hd32
    have hq38lt := hm59.lt
    have hloq38 := lt51 _ hF60
    have hoq38 := own52 _ hF60
    have hneb16v : b16 ≠ v := Blk.ne hm57 hm55 (by decide)
    have hneq38v : q38 ≠ v := Blk.ne hm59 hm55 (by decide)
    have hneq38b16 : q38 ≠ b16 := Blk.ne hm59 hm57 (by decide)
    refine On 8 [0, 1, 2, 3, 9, 11, 12] <| Oer <| On 3 [0, 1, 2, 3, 9, 11, 12, 53] <| Lc 12 (pt P39.gv) hm55 (by rw [List.getElem?_append_right (by rw [List.length_map]; omega), List.length_map, hvlhm55]; rfl) ?_
    refine On 6 [0, 1, 2, 3, 9, 11, 12, 54, 55, 56] <| Kk (vget_spec F40 v P39 s who ref _ ho41) fun w63 hk64 _ => ?_
    replace hl := hl.keep hk64 nk
    replace hK0 := hK0.tn hk64
    replace ho41 := ho41.keep hk64 nk
    refine On 10 [0, 1, 2, 3, 9, 11, 12, 58, 59] <| Alc_ 23 (.agg #[nt 0, .bool false, nt 0, nt 0, nt 0, nt 0]) [nt 0, .bool false, nt 0, nt 0, nt 0, nt 0] ?_
    intro b66 w66 e66 hb66 k66 z66
    have hsz67 := Keep.size k66
    replace hb1 := hb1.k0 (hk64.tr k66)
    replace hm55 := hm55.k0 (hk64.tr k66)
    replace hm57 := hm57.k0 (hk64.tr k66)
    replace hm59 := hm59.k0 (hk64.tr k66)
    replace hl := hl.keep k66 nk
    replace hK0 := hK0.tn k66
    replace ho41 := ho41.keep k66 nk
    have hb66lt := hb66.lt
    refine Sg 0 (Vt.cells ((GV.getC who ref s.cs).getD Vt.zero)) hb66 (Vt.len _) (Vt.one _) ?_
    intro w68 hb66_71 hk69 hz70
    replace hb66_71 : Blk w68 b66 (Vt.cells ((GV.getC who ref s.cs).getD Vt.zero)) 23 := (by rwa [over_whole (by rw [Vt.len]; rfl)] at hb66_71)
    have hsz72 := Keep.size hk69
    replace hb1 := hb1.k1 hk69
    replace hm55 := hm55.k1 hk69
    replace hm57 := hm57.k1 hk69
    replace hm59 := hm59.k1 hk69
    replace hl := hl.keep hk69 (fun q hq hs => by have hs : q = b66 := hs; have g0 := hGo q hq; have g1 := hGlt q hq; omega)
    replace hK0 := Keep.fr hK0 hk69
    replace ho41 := ho41.keep hk69 (fun q hq hs => by have hs : q = b66 := hs; have g0 := own52 q hq; have g1 := lt51 q hq; omega)
    refine On 13 [0, 1, 2, 3, 9, 11, 12, 13, 14] <| Oe <| V_seq <| V_block <| Vr <| On 3 [0, 1, 2, 3, 9, 11, 12, 13, 14, 63] <| Lr 0 (.pointer none) hm59 <| Oen [0, 1, 2, 3, 9, 11, 12, 13, 14, 60] <| Vf <| Vr <| La 0 (Vt.cells x) 6 hb1 (take_all (Vt.len _)) (Vt.len _) <| Kk (cvCapital_spec x _) fun w75 hk76 _ => ?_
    replace hl := hl.keep hk76 nk
    replace hK0 := hK0.tn hk76
    replace ho41 := ho41.keep hk76 nk
    refine On 4 [0, 1, 2, 3, 9, 11, 12, 13, 14, 68, 69, 70] <| Kk (free_spec G l xs cs who _ hl) fun w78 hk79 _ => ?_
    replace hb1 := hb1.k0 (hk76.tr hk79)
    replace hm55 := hm55.k0 (hk76.tr hk79)
    replace hm57 := hm57.k0 (hk76.tr hk79)
    replace hm59 := hm59.k0 (hk76.tr hk79)
    replace hb66_71 := hb66_71.k0 (hk76.tr hk79)
    replace hl := hl.keep hk79 nk
    replace hK0 := hK0.tn hk79
    replace ho41 := ho41.keep hk79 nk
    refine Oen [0, 1, 2, 3, 9, 11, 12, 13, 14, 66] <| Vi (capI x > (acct xs who).free) (fun hc81 => ?_) (fun hc81 => ?_)
    ·
     refine Vn [10] <| V_ret <| X_ret_block <| X_ret_then ?_
     have hE82 : voteE xs s who ref x = 6 := by unfold voteE; rw [if_neg (by rintro (h9 | h9); exact h9 hg8; exact h9 hc14)]; rw [hpa16]; dsimp only; rw [if_neg (fun h9 => h9 hc30)]; rw [if_neg (by rw [hd32]; decide)]; rw [if_pos hc81]
     exact Xr (nt 6) ⟨by rw [hE82], ⟨F40, G, ⟨_, by rw [show voteS xs s who ref x = s from by unfold voteS; rw [hE82, if_neg (by decide)]]; exact ho41⟩, by rw [show voteC xs cs s who ref x = cs from by unfold voteC; rw [hE82, if_neg (by decide)]]; exact hl, rel53, hGr, dis54⟩, hK0⟩
    refine Vr <| Os 3 [(0, pt v),(1, pt l),(2, nt who),(3, nt ref),(9, pt b1),(11, pt b16),(12, pt q38),(13, pt b66),(14, .bool ((GV.getC who ref s.cs).isSome)),(76, .bool (!((GV.getC who ref s.cs).isSome)))] ?_
    cases hg83 : (!((GV.getC who ref s.cs).isSome))
    ·
     refine OI_eq [(0, pt v),(1, pt l),(2, nt who),(3, nt ref),(9, pt b1),(11, pt b16),(12, pt q38),(13, pt b66),(14, .bool ((GV.getC who ref s.cs).isSome)),(76, .bool false)] (by first | rfl | rw [hg83]) <| Oen [0, 1, 2, 3, 9, 11, 12, 13, 14, 73] <| Vf <| V_skip <| X_block <| X_then <| V_seq <| Vn [0, 1, 2, 3, 9, 11, 12, 13, 86] <| Vq (u := .bool ((GV.getC who ref s.cs).isSome)) (v := .bool true) 86 (by rw [(show (GV.getC who ref s.cs).isSome = true from by simpa using hg83)]) <| Vo <| Vd1 (acts [10, 11, 14]) none_ [5, 6, 7, 8, 9, 10, 1, 2, 3, 4, 11, 0, 12, 13, 14] fun w86 hk85 he87 K90 _ => ?_
     replace hb1 := hb1.k0 hk85
     replace hm55 := hm55.k0 hk85
     replace hm57 := hm57.k0 hk85
     replace hm59 := hm59.k0 hk85
     replace hb66_71 := hb66_71.k0 hk85
     replace hl := hl.keep hk85 nk
     replace hK0 := hK0.tn hk85
     replace ho41 := ho41.keep hk85 nk
     have qhb1 := hb1
     have qhm55 := hm55
     have qhm57 := hm57
     have qhm59 := hm59
     have qhb66_71 := hb66_71
     refine Ma 0 (Vt.cells ((GV.getC who ref s.cs).getD Vt.zero)) 6 qhb66_71 id (take_all (Vt.len _)) (Vt.len _) <| Gn [9, 10, 1, 2, 3, 4, 11, 0, 12, 13, 14] [0, 1, 2, 3, 9, 11, 12, 92, 95] <| Ma 1 [nt (((s.rc who ((q16).track))).got.v), nt (((s.rc who ((q16).track))).got.c)] 2 qhm59 id rfl rfl <| Hg (cvGain_spec ((GV.getC who ref s.cs).getD Vt.zero) (((s.rc who ((q16).track))).got) _) ?_
     rintro _ w93 ⟨rfl, hk94⟩
     have K95 := K90.tr (Keep.ofNone hk94)
     refine ⟨_, rfl, K95, ?_⟩
     have hzK95 := Keep.size K95
     have hsz96 := Keep.size hk94
     replace hl := hl.keep hk94 nk
     replace hK0 := hK0.tn hk94
     replace ho41 := ho41.keep hk94 nk
     refine Gn [4, 11, 0, 12, 13, 14] [0, 1, 2, 3, 9, 11, 12, 90, 97] <| Ma 1 [nt ((q16).t.a), nt ((q16).t.n), nt ((q16).t.s)] 3 qhm57 id rfl rfl <| Hg (cvSub_spec ((q16).t) (gainT ((GV.getC who ref s.cs).getD Vt.zero) (((s.rc who ((q16).track))).got)) _) ?_
     rintro _ w99 ⟨rfl, hk100⟩
     have K101 := K95.tr (Keep.ofNone hk100)
     refine ⟨_, rfl, K101, ?_⟩
     have hzK101 := Keep.size K101
     have hsz102 := Keep.size hk100
     replace hb1 := hb1.k0 (hk94.tr hk100)
     replace hm55 := hm55.k0 (hk94.tr hk100)
     replace hm57 := hm57.k0 (hk94.tr hk100)
     replace hm59 := hm59.k0 (hk94.tr hk100)
     replace hl := hl.keep hk100 nk
     replace hK0 := hK0.tn hk100
     replace ho41 := ho41.keep hk100 nk
     refine Gn [14] [0, 1, 2, 3, 9, 11, 12, 98, 100] <| GI_final 14 (by kernel_rfl) (by kernel_rfl) <| Sg 1 (Tly.cells (subT ((q16).t) (gainT ((GV.getC who ref s.cs).getD Vt.zero) (((s.rc who ((q16).track))).got)))) hm57 (Tly.len _) (Tly.one _) ?_
     intro w103 hn106 hk104 hz105
     replace hn106 : Blk w103 b16 (PollS.cells { q16 with t := (subT ((q16).t) (gainT ((GV.getC who ref s.cs).getD Vt.zero) (((s.rc who ((q16).track))).got))) }) 89 := hn106
     have hsz107 := Keep.size hk104
     replace hb1 := hb1.keep hk104 (by show ¬ (b1 = b16); omega)
     replace hm55 := hm55.keep hk104 (by show ¬ (v = b16); omega)
     replace hm59 := hm59.keep hk104 (by show ¬ (q38 = b16); omega)
     replace hl := hl.keep hk104 (fun q hq hs => dis54 q (by rw [show q = b16 from hs]; exact hF58) hq)
     replace hK0 := Keep.fresh hK0 hk104 (fun i hi hs => by have hs : F40 i := (by rw [show i = b16 from hs]; exact hF58); rcases rel53 i hs with h | h; exact .inl h; (exfalso; omega))
     obtain ⟨tv109, htv109⟩ : ∃ t9 : Tly, t9 = (subT ((q16).t) (gainT ((GV.getC who ref s.cs).getD Vt.zero) (((s.rc who ((q16).track))).got))) := ⟨_, rfl⟩
     rw [← htv109] at hn106
     have ho108 := Vot.setPoll ho41 hqb16w48 hps16 hk104 (show Blk _ _ (PollS.cells { q16 with t := tv109 }) _ from hn106)
     have hs110 : (s.setP i16 { q16 with t := tv109 }).ps[i16]? = some (some { q16 with t := tv109 }) := List.getElem?_set_self (List.getElem?_eq_some_iff.1 hps16).1
     have hb16lt := hn106.lt
     refine Oe <| V_seq <| Vd1 (acts [10, 11, 12, 15]) none_ [5, 6, 7, 8, 9, 10, 11, 1, 2, 3, 4, 12, 0, 13, 14, 15] fun w112 hk111 he113 K116 _ => ?_
     replace hb1 := hb1.k0 hk111
     replace hm55 := hm55.k0 hk111
     replace hm59 := hm59.k0 hk111
     replace hn106 := hn106.k0 hk111
     replace hl := hl.keep hk111 nk
     replace hK0 := hK0.tn hk111
     replace ho108 := ho108.keep hk111 nk
     have qhb1 := hb1
     have qhm55 := hm55
     have qhm59 := hm59
     have qhn106 := hn106
     refine Ma 0 (Vt.cells x) 6 qhb1 id (take_all (Vt.len _)) (Vt.len _) <| Gn [9, 10, 11, 1, 2, 3, 4, 12, 0, 13, 14, 15] [0, 1, 2, 3, 9, 11, 106, 109] <| Ma 1 [nt (((s.rc who ((q16).track))).got.v), nt (((s.rc who ((q16).track))).got.c)] 2 qhm59 id rfl rfl <| Hg (cvGain_spec x (((s.rc who ((q16).track))).got) _) ?_
     rintro _ w119 ⟨rfl, hk120⟩
     have K121 := K116.tr (Keep.ofNone hk120)
     refine ⟨_, rfl, K121, ?_⟩
     have hzK121 := Keep.size K121
     have hsz122 := Keep.size hk120
     replace hl := hl.keep hk120 nk
     replace hK0 := hK0.tn hk120
     replace ho108 := ho108.keep hk120 nk
     refine GI_slit (E := 43) (zv := .agg #[nt 0, nt 0, nt 0]) (sz := 3) (by_ := 24) 153 1 #[(0, (Operand.tmp 111))] [.agg (Tly.cells (gainT x (((s.rc who ((q16).track))).got))).toArray] (Tly.cells (gainT x (((s.rc who ((q16).track))).got))) (some 112) (by kernel_rfl) (by kernel_rfl) K121 (by kernel_rfl) (by kernel_rfl) (by omega) rfl (by omega) (by intro v hv; obtain rfl := List.mem_singleton.1 hv; show (Tly.cells (gainT x (((s.rc who ((q16).track))).got))).toArray.size = 3; simp [Tly.len]) (by kernel_rfl) (by show (Tly.cells (gainT x (((s.rc who ((q16).track))).got))).toArray.toList ++ [] = _; simp) ?_
     intro b123 w123 e123 hb123 k123 z123 K124
     have hsz125 := Keep.size k123
     replace hl := hl.keep k123 nk
     replace hK0 := hK0.tn k123
     replace ho108 := ho108.keep k123 nk
     have hb123lt := hb123.lt
     refine Gn [4, 12, 0, 13, 14, 15] [0, 1, 2, 3, 9, 11, 104, 112] <| Ma 1 [nt ((tv109).a), nt ((tv109).n), nt ((tv109).s)] 3 qhn106 id rfl rfl <| Gk (kl 58 #[(.tmp 105),(.tmp 112)] #[43, 153]) 58 #[.agg #[nt ((tv109).a), nt ((tv109).n), nt ((tv109).s)], sl_ b123 0 1 1] (some 113) (cvAdd1 b123 (Tly.mk ((tv109).a) ((tv109).n) ((tv109).s)) (gainT x (((s.rc who ((q16).track))).got)) _ _ hb123) ?_
     rintro _ w130 ⟨rfl, hk131⟩
     have K132 := K124.tr (Keep.ofNone hk131)
     refine ⟨_, rfl, K132, ?_⟩
     have hzK132 := Keep.size K132
     have hsz133 := Keep.size hk131
     replace hb1 := hb1.k0 ((hk120.tr k123).tr hk131)
     replace hm55 := hm55.k0 ((hk120.tr k123).tr hk131)
     replace hn106 := hn106.k0 ((hk120.tr k123).tr hk131)
     replace hl := hl.keep hk131 nk
     replace hK0 := hK0.tn hk131
     replace ho108 := ho108.keep hk131 nk
     refine Gn [15] [0, 1, 2, 3, 9, 11, 113, 115] <| GI_final 15 (by kernel_rfl) (by kernel_rfl) <| Sg 1 (Tly.cells (addT (Tly.mk ((tv109).a) ((tv109).n) ((tv109).s)) (gainT x (((s.rc who ((q16).track))).got)))) hn106 (Tly.len _) (Tly.one _) ?_
     intro w134 hn137 hk135 hz136
     replace hn137 : Blk w134 b16 (PollS.cells { q16 with t := (addT (Tly.mk ((tv109).a) ((tv109).n) ((tv109).s)) (gainT x (((s.rc who ((q16).track))).got))) }) 89 := hn137
     have hsz138 := Keep.size hk135
     replace hb1 := hb1.keep hk135 (by show ¬ (b1 = b16); omega)
     replace hm55 := hm55.keep hk135 (by show ¬ (v = b16); omega)
     replace hl := hl.keep hk135 (fun q hq hs => dis54 q (by rw [show q = b16 from hs]; exact hF58) hq)
     replace hK0 := Keep.fresh hK0 hk135 (fun i hi hs => by have hs : F40 i := (by rw [show i = b16 from hs]; exact hF58); rcases rel53 i hs with h | h; exact .inl h; (exfalso; omega))
     obtain ⟨tv140, htv140⟩ : ∃ t9 : Tly, t9 = (addT (Tly.mk ((tv109).a) ((tv109).n) ((tv109).s)) (gainT x (((s.rc who ((q16).track))).got))) := ⟨_, rfl⟩
     rw [← htv140] at hn137
     have ho139 := Vot.setPoll ho108 hqb16w48 hs110 hk135 (show Blk _ _ (PollS.cells { q16 with t := tv140 }) _ from hn137)
     have hs141 : ((s.setP i16 { q16 with t := tv109 }).setP i16 { q16 with t := tv140 }).ps[i16]? = some (some { q16 with t := tv140 }) := List.getElem?_set_self (List.getElem?_eq_some_iff.1 hs110).1
     have hb16lt := hn137.lt
     refine Oe <| V_seq <| Vd1 (acts [7]) none_ [0, 1, 2, 3, 4, 5, 6, 7] fun w143 hk142 he144 K147 _ => ?_
     replace hb1 := hb1.k0 hk142
     replace hm55 := hm55.k0 hk142
     replace hl := hl.keep hk142 nk
     replace hK0 := hK0.tn hk142
     replace ho139 := ho139.keep hk142 nk
     have qhb1 := hb1
     have qhm55 := hm55
     refine Gn [3, 4, 5, 6, 7] [1, 2, 3, 9, 11, 118] <| Mc0 12 (pt P39.gv) qhm55 (by rw [List.getElem?_append_right (by rw [List.length_map]; omega), List.length_map, hvlhm55]; rfl) ?_
     refine Gn [6, 7] [1, 2, 9, 11, 119, 120, 121] <| Ma 0 (Vt.cells x) 6 qhb1 id (take_all (Vt.len _)) (Vt.len _) <| GI_final 7 (by kernel_rfl) (by kernel_rfl) <| Kg (vset_spec F40 v P39 ((s.setP i16 { q16 with t := tv109 }).setP i16 { q16 with t := tv140 }) who ref x _ ho139 (by omega) (by omega) hc14 (by rw [hpr16, Int.toNat_natCast]; exact ⟨_, hs141⟩)) ?_
     rintro _ w152 ⟨rfl, ⟨F154, ho155, hfr156⟩, hk153⟩
     refine ⟨_, rfl, ?_⟩
     have hsz157 := Keep.size hk153
     replace hb1 := hb1.keep hk153 (fun hs => by have h1 := own52 _ hs; have h2 := lt51 _ hs; omega)
     replace hl := hl.keep hk153 (fun q hq hs => dis54 q hs hq)
     replace hK0 := frl hK0 hk153 rel53
     have own159 : ∀ q, F154 q → 0 ≤ q ∧ q ≠ b1 ∧ q ≠ b66 ∧ q ≠ b123 := fun q hq => by rcases hfr156 q hq with h | h; (have h1 := own52 q h; have h2 := lt51 q h; omega); omega
     have lt158 := Vot.lt ho155
     have rel160 : ∀ q, F154 q → F q ∨ w.heap.size ≤ q := fun q hq => by rcases hfr156 q hq with h | h; exact rel53 q h; exact .inr (by omega)
     have dis161 : ∀ q, F154 q → ¬ G q := fun q h1 h2 => by rcases hfr156 q h1 with h | h; exact dis54 q h h2; (have h4 := hGlt q h2; omega)
     obtain ⟨hvlhm162, hm162⟩ := Vot.vblk ho155
     have hF163 := Vot.at_ ho155
     have hvlt := hm162.lt
     have hlov := lt158 _ hF163
     have hov := own159 _ hF163
     obtain ⟨hm164, hF165⟩ := Vot.pollB ho155 hqb16w48 hs141
     have hb16lt := hm164.lt
     have hlob16 := lt158 _ hF165
     have hob16 := own159 _ hF165
     obtain ⟨hF167, hm166⟩ := Vot.recN ho155 hgc43 hd32
     have hq38lt := hm166.lt
     have hloq38 := lt158 _ hF167
     have hoq38 := own159 _ hF167
     have hneb16v : b16 ≠ v := Blk.ne hm164 hm162 (by decide)
     have hneq38v : q38 ≠ v := Blk.ne hm166 hm162 (by decide)
     have hneq38b16 : q38 ≠ b16 := Blk.ne hm166 hm164 (by decide)
     refine Oe <| V_seq <| Vd1 (acts [7, 8]) none_ [6, 7, 0, 1, 2, 3, 4, 5, 8] fun w169 hk168 he170 K173 _ => ?_
     replace hb1 := hb1.k0 hk168
     replace hm164 := hm164.k0 hk168
     replace hl := hl.keep hk168 nk
     replace hK0 := hK0.tn hk168
     replace ho155 := ho155.keep hk168 nk
     have qhb1 := hb1
     have qhm164 := hm164
     refine Ma 0 (Vt.cells x) 6 qhb1 id (take_all (Vt.len _)) (Vt.len _) <| Hg (cvCapital_spec x _) ?_
     rintro _ w176 ⟨rfl, hk177⟩
     have K178 := K173.tr (Keep.ofNone hk177)
     refine ⟨_, rfl, K178, ?_⟩
     have hzK178 := Keep.size K178
     have hsz179 := Keep.size hk177
     replace hl := hl.keep hk177 nk
     replace hK0 := hK0.tn hk177
     replace ho155 := ho155.keep hk177 nk
     refine Gn [5, 8] [124, 125, 128, 131] <| Mr 0 (nt ((q16).track)) qhm164 <| GI_final 8 (by kernel_rfl) (by kernel_rfl) <| Kg (raise_spec G l xs cs who ((q16).track) (capI x) _ hl hmax) ?_
     rintro _ w182 ⟨rfl, ⟨F184, ho185, hfr186⟩, hk183⟩
     refine ⟨_, rfl, ?_⟩
     have hsz187 := Keep.size hk183
     replace hK0 := frR hK0 hk183 hGr
     replace ho155 := ho155.keep hk183 (fun q hq hs => dis161 q hq hs)
     have own189 : ∀ q, F184 q → 0 ≤ q ∧ q ≠ b1 ∧ q ≠ b66 ∧ q ≠ b123 := fun q hq => by rcases hfr186 q hq with h | h; (have h1 := hGo q h; have h2 := hGlt q h; omega); omega
     have lt188 := Led.lt ho185
     have rel190 : ∀ q, F184 q → G q ∨ w.heap.size ≤ q := fun q hq => by rcases hfr186 q hq with h | h; exact hGr q h; exact .inr (by omega)
     have dis191 : ∀ q, F184 q → ¬ F154 q := fun q h1 h2 => by rcases hfr186 q h1 with h | h; exact dis161 q h2 h; (have h4 := lt158 q h2; omega)
     obtain ⟨hvlhm192, hm192⟩ := Vot.vblk ho155
     have hF193 := Vot.at_ ho155
     have hvlt := hm192.lt
     have hlov := lt158 _ hF193
     have hov := own159 _ hF193
     obtain ⟨hm194, hF195⟩ := Vot.pollB ho155 hqb16w48 hs141
     have hb16lt := hm194.lt
     have hlob16 := lt158 _ hF195
     have hob16 := own159 _ hF195
     obtain ⟨hF197, hm196⟩ := Vot.recN ho155 hgc43 hd32
     have hq38lt := hm196.lt
     have hloq38 := lt158 _ hF197
     have hoq38 := own159 _ hF197
     have hneb16v : b16 ≠ v := Blk.ne hm194 hm192 (by decide)
     have hneq38v : q38 ≠ v := Blk.ne hm196 hm192 (by decide)
     have hneq38b16 : q38 ≠ b16 := Blk.ne hm196 hm194 (by decide)
     refine Oer <| Oen [10] <| V_ret ?_
     have hE198 : voteE xs s who ref x = 0 := by unfold voteE; rw [if_neg (by rintro (h9 | h9); exact h9 hg8; exact h9 hc14)]; rw [hpa16]; dsimp only; rw [if_neg (fun h9 => h9 hc30)]; rw [if_neg (by rw [hd32]; decide)]; rw [if_neg hc81]; rw [if_neg (fun h9 => by rw [(show (GV.getC who ref s.cs).isSome = true from by simpa using hg83)] at h9; cases h9.1)]
     have hVT : voteT s who ref x q16 = tv140 := by unfold voteT; rw [(show (GV.getC who ref s.cs).isSome = true from by simpa using hg83), htv140, htv109]; rfl
     exact Xr (nt 0) ⟨by rw [hE198], ⟨F154, F184, ⟨_, by rw [show voteS xs s who ref x = ({ (s.setP i16 { q16 with t := tv109 }).setP i16 { q16 with t := tv140 } with cs := GV.setC who ref x ((s.setP i16 { q16 with t := tv109 }).setP i16 { q16 with t := tv140 }).cs }) from by unfold voteS; rw [hE198, if_pos rfl, hpa16]; dsimp only; rw [hVT, hpr16, Int.toNat_natCast]; first | rfl | (simp only [VS.setP_setP]; rfl)]; exact ho155⟩, by rw [show voteC xs cs s who ref x = raiseC cs who q16.track (capI x) from by unfold voteC; rw [hE198, if_pos rfl, hpa16]]; exact ho185, rel160, rel190, (fun q h1 h2 => dis191 q h2 h1)⟩, hK0⟩
    refine OI_eq [(0, pt v),(1, pt l),(2, nt who),(3, nt ref),(9, pt b1),(11, pt b16),(12, pt q38),(13, pt b66),(14, .bool ((GV.getC who ref s.cs).isSome)),(76, .bool true)] (by first | rfl | rw [hg83]) <| On 8 [0, 1, 2, 3, 9, 11, 12, 13, 14, 76, 77, 78, 81] <| Lr 0 (nt ((q16).track)) hm57 <| Kk (count_spec F40 v P39 s who ((q16).track) _ ho41) fun w201 hk202 _ => ?_
    replace hb1 := hb1.k0 hk202
    replace hm55 := hm55.k0 hk202
    replace hm57 := hm57.k0 hk202
    replace hm59 := hm59.k0 hk202
    replace hl := hl.keep hk202 nk
    replace hK0 := hK0.tn hk202
    replace ho41 := ho41.keep hk202 nk
    refine Oen [0, 1, 2, 3, 9, 11, 12, 13, 14, 73] <| Vi ((((vrow s who ((q16).track)).length : Nat) : Int) ≥ 6) (fun hc204 => ?_) (fun hc204 => ?_)
    ·
     refine Vn [10] <| V_ret <| X_ret_block <| X_ret_then ?_
     have hE205 : voteE xs s who ref x = 3 := by unfold voteE; rw [if_neg (by rintro (h9 | h9); exact h9 hg8; exact h9 hc14)]; rw [hpa16]; dsimp only; rw [if_neg (fun h9 => h9 hc30)]; rw [if_neg (by rw [hd32]; decide)]; rw [if_neg hc81]; rw [if_pos ⟨(show (GV.getC who ref s.cs).isSome = false from by simpa using hg83), hc204⟩]
     exact Xr (nt 3) ⟨by rw [hE205], ⟨F40, G, ⟨_, by rw [show voteS xs s who ref x = s from by unfold voteS; rw [hE205, if_neg (by decide)]]; exact ho41⟩, by rw [show voteC xs cs s who ref x = cs from by unfold voteC; rw [hE205, if_neg (by decide)]]; exact hl, rel53, hGr, dis54⟩, hK0⟩
    refine V_skip <| X_block <| X_then <| V_seq <| Vn [0, 1, 2, 3, 9, 11, 12, 13, 86] <| Vq (u := .bool ((GV.getC who ref s.cs).isSome)) (v := .bool false) 86 (by rw [(show (GV.getC who ref s.cs).isSome = false from by simpa using hg83)]) <| Vf <| Vsk <| V_seq <| Vd1 (acts [10, 11, 12, 15]) none_ [5, 6, 7, 8, 9, 10, 11, 1, 2, 3, 4, 12, 0, 13, 14, 15] fun w208 hk207 he209 K212 _ => ?_
    replace hb1 := hb1.k0 hk207
    replace hm55 := hm55.k0 hk207
    replace hm57 := hm57.k0 hk207
    replace hm59 := hm59.k0 hk207
    replace hl := hl.keep hk207 nk
    replace hK0 := hK0.tn hk207
    replace ho41 := ho41.keep hk207 nk
    have qhb1 := hb1
    have qhm55 := hm55
    have qhm57 := hm57
    have qhm59 := hm59
    refine Ma 0 (Vt.cells x) 6 qhb1 id (take_all (Vt.len _)) (Vt.len _) <| Gn [9, 10, 11, 1, 2, 3, 4, 12, 0, 13, 14, 15] [0, 1, 2, 3, 9, 11, 106, 109] <| Ma 1 [nt (((s.rc who ((q16).track))).got.v), nt (((s.rc who ((q16).track))).got.c)] 2 qhm59 id rfl rfl <| Hg (cvGain_spec x (((s.rc who ((q16).track))).got) _) ?_
    rintro _ w215 ⟨rfl, hk216⟩
    have K217 := K212.tr (Keep.ofNone hk216)
    refine ⟨_, rfl, K217, ?_⟩
    have hzK217 := Keep.size K217
    have hsz218 := Keep.size hk216
    replace hl := hl.keep hk216 nk
    replace hK0 := hK0.tn hk216
    replace ho41 := ho41.keep hk216 nk
    refine GI_slit (E := 43) (zv := .agg #[nt 0, nt 0, nt 0]) (sz := 3) (by_ := 24) 153 1 #[(0, (Operand.tmp 111))] [.agg (Tly.cells (gainT x (((s.rc who ((q16).track))).got))).toArray] (Tly.cells (gainT x (((s.rc who ((q16).track))).got))) (some 112) (by kernel_rfl) (by kernel_rfl) K217 (by kernel_rfl) (by kernel_rfl) (by omega) rfl (by omega) (by intro v hv; obtain rfl := List.mem_singleton.1 hv; show (Tly.cells (gainT x (((s.rc who ((q16).track))).got))).toArray.size = 3; simp [Tly.len]) (by kernel_rfl) (by show (Tly.cells (gainT x (((s.rc who ((q16).track))).got))).toArray.toList ++ [] = _; simp) ?_
    intro b219 w219 e219 hb219 k219 z219 K220
    have hsz221 := Keep.size k219
    replace hl := hl.keep k219 nk
    replace hK0 := hK0.tn k219
    replace ho41 := ho41.keep k219 nk
    have hb219lt := hb219.lt
    refine Gn [4, 12, 0, 13, 14, 15] [0, 1, 2, 3, 9, 11, 104, 112] <| Ma 1 [nt ((q16).t.a), nt ((q16).t.n), nt ((q16).t.s)] 3 qhm57 id rfl rfl <| Gk (kl 58 #[(.tmp 105),(.tmp 112)] #[43, 153]) 58 #[.agg #[nt ((q16).t.a), nt ((q16).t.n), nt ((q16).t.s)], sl_ b219 0 1 1] (some 113) (cvAdd1 b219 (Tly.mk ((q16).t.a) ((q16).t.n) ((q16).t.s)) (gainT x (((s.rc who ((q16).track))).got)) _ _ hb219) ?_
    rintro _ w226 ⟨rfl, hk227⟩
    have K228 := K220.tr (Keep.ofNone hk227)
    refine ⟨_, rfl, K228, ?_⟩
    have hzK228 := Keep.size K228
    have hsz229 := Keep.size hk227
    replace hb1 := hb1.k0 ((hk216.tr k219).tr hk227)
    replace hm55 := hm55.k0 ((hk216.tr k219).tr hk227)
    replace hm57 := hm57.k0 ((hk216.tr k219).tr hk227)
    replace hl := hl.keep hk227 nk
    replace hK0 := hK0.tn hk227
    replace ho41 := ho41.keep hk227 nk
    refine Gn [15] [0, 1, 2, 3, 9, 11, 113, 115] <| GI_final 15 (by kernel_rfl) (by kernel_rfl) <| Sg 1 (Tly.cells (addT (Tly.mk ((q16).t.a) ((q16).t.n) ((q16).t.s)) (gainT x (((s.rc who ((q16).track))).got)))) hm57 (Tly.len _) (Tly.one _) ?_
    intro w230 hn233 hk231 hz232
    replace hn233 : Blk w230 b16 (PollS.cells { q16 with t := (addT (Tly.mk ((q16).t.a) ((q16).t.n) ((q16).t.s)) (gainT x (((s.rc who ((q16).track))).got))) }) 89 := hn233
    have hsz234 := Keep.size hk231
    replace hb1 := hb1.keep hk231 (by show ¬ (b1 = b16); omega)
    replace hm55 := hm55.keep hk231 (by show ¬ (v = b16); omega)
    replace hl := hl.keep hk231 (fun q hq hs => dis54 q (by rw [show q = b16 from hs]; exact hF58) hq)
    replace hK0 := Keep.fresh hK0 hk231 (fun i hi hs => by have hs : F40 i := (by rw [show i = b16 from hs]; exact hF58); rcases rel53 i hs with h | h; exact .inl h; (exfalso; omega))
    obtain ⟨tv236, htv236⟩ : ∃ t9 : Tly, t9 = (addT (Tly.mk ((q16).t.a) ((q16).t.n) ((q16).t.s)) (gainT x (((s.rc who ((q16).track))).got))) := ⟨_, rfl⟩
    rw [← htv236] at hn233
    have ho235 := Vot.setPoll ho41 hqb16w48 hps16 hk231 (show Blk _ _ (PollS.cells { q16 with t := tv236 }) _ from hn233)
    have hs237 : (s.setP i16 { q16 with t := tv236 }).ps[i16]? = some (some { q16 with t := tv236 }) := List.getElem?_set_self (List.getElem?_eq_some_iff.1 hps16).1
    have hb16lt := hn233.lt
    refine Oe <| V_seq <| Vd1 (acts [7]) none_ [0, 1, 2, 3, 4, 5, 6, 7] fun w239 hk238 he240 K243 _ => ?_
    replace hb1 := hb1.k0 hk238
    replace hm55 := hm55.k0 hk238
    replace hl := hl.keep hk238 nk
    replace hK0 := hK0.tn hk238
    replace ho235 := ho235.keep hk238 nk
    have qhb1 := hb1
    have qhm55 := hm55
    refine Gn [3, 4, 5, 6, 7] [1, 2, 3, 9, 11, 118] <| Mc0 12 (pt P39.gv) qhm55 (by rw [List.getElem?_append_right (by rw [List.length_map]; omega), List.length_map, hvlhm55]; rfl) ?_
    refine Gn [6, 7] [1, 2, 9, 11, 119, 120, 121] <| Ma 0 (Vt.cells x) 6 qhb1 id (take_all (Vt.len _)) (Vt.len _) <| GI_final 7 (by kernel_rfl) (by kernel_rfl) <| Kg (vset_spec F40 v P39 (s.setP i16 { q16 with t := tv236 }) who ref x _ ho235 (by omega) (by omega) hc14 (by rw [hpr16, Int.toNat_natCast]; exact ⟨_, hs237⟩)) ?_
    rintro _ w248 ⟨rfl, ⟨F250, ho251, hfr252⟩, hk249⟩
    refine ⟨_, rfl, ?_⟩
    have hsz253 := Keep.size hk249
    replace hb1 := hb1.keep hk249 (fun hs => by have h1 := own52 _ hs; have h2 := lt51 _ hs; omega)
    replace hl := hl.keep hk249 (fun q hq hs => dis54 q hs hq)
    replace hK0 := frl hK0 hk249 rel53
    have own255 : ∀ q, F250 q → 0 ≤ q ∧ q ≠ b1 ∧ q ≠ b66 ∧ q ≠ b219 := fun q hq => by rcases hfr252 q hq with h | h; (have h1 := own52 q h; have h2 := lt51 q h; omega); omega
    have lt254 := Vot.lt ho251
    have rel256 : ∀ q, F250 q → F q ∨ w.heap.size ≤ q := fun q hq => by rcases hfr252 q hq with h | h; exact rel53 q h; exact .inr (by omega)
    have dis257 : ∀ q, F250 q → ¬ G q := fun q h1 h2 => by rcases hfr252 q h1 with h | h; exact dis54 q h h2; (have h4 := hGlt q h2; omega)
    obtain ⟨hvlhm258, hm258⟩ := Vot.vblk ho251
    have hF259 := Vot.at_ ho251
    have hvlt := hm258.lt
    have hlov := lt254 _ hF259
    have hov := own255 _ hF259
    obtain ⟨hm260, hF261⟩ := Vot.pollB ho251 hqb16w48 hs237
    have hb16lt := hm260.lt
    have hlob16 := lt254 _ hF261
    have hob16 := own255 _ hF261
    obtain ⟨hF263, hm262⟩ := Vot.recN ho251 hgc43 hd32
    have hq38lt := hm262.lt
    have hloq38 := lt254 _ hF263
    have hoq38 := own255 _ hF263
    have hneb16v : b16 ≠ v := Blk.ne hm260 hm258 (by decide)
    have hneq38v : q38 ≠ v := Blk.ne hm262 hm258 (by decide)
    have hneq38b16 : q38 ≠ b16 := Blk.ne hm262 hm260 (by decide)
    refine Oe <| V_seq <| Vd1 (acts [7, 8]) none_ [6, 7, 0, 1, 2, 3, 4, 5, 8] fun w265 hk264 he266 K269 _ => ?_
    replace hb1 := hb1.k0 hk264
    replace hm260 := hm260.k0 hk264
    replace hl := hl.keep hk264 nk
    replace hK0 := hK0.tn hk264
    replace ho251 := ho251.keep hk264 nk
    have qhb1 := hb1
    have qhm260 := hm260
    refine Ma 0 (Vt.cells x) 6 qhb1 id (take_all (Vt.len _)) (Vt.len _) <| Hg (cvCapital_spec x _) ?_
    rintro _ w272 ⟨rfl, hk273⟩
    have K274 := K269.tr (Keep.ofNone hk273)
    refine ⟨_, rfl, K274, ?_⟩
    have hzK274 := Keep.size K274
    have hsz275 := Keep.size hk273
    replace hl := hl.keep hk273 nk
    replace hK0 := hK0.tn hk273
    replace ho251 := ho251.keep hk273 nk
    refine Gn [5, 8] [124, 125, 128, 131] <| Mr 0 (nt ((q16).track)) qhm260 <| GI_final 8 (by kernel_rfl) (by kernel_rfl) <| Kg (raise_spec G l xs cs who ((q16).track) (capI x) _ hl hmax) ?_
    rintro _ w278 ⟨rfl, ⟨F280, ho281, hfr282⟩, hk279⟩
    refine ⟨_, rfl, ?_⟩
    have hsz283 := Keep.size hk279
    replace hK0 := frR hK0 hk279 hGr
    replace ho251 := ho251.keep hk279 (fun q hq hs => dis257 q hq hs)
    have own285 : ∀ q, F280 q → 0 ≤ q ∧ q ≠ b1 ∧ q ≠ b66 ∧ q ≠ b219 := fun q hq => by rcases hfr282 q hq with h | h; (have h1 := hGo q h; have h2 := hGlt q h; omega); omega
    have lt284 := Led.lt ho281
    have rel286 : ∀ q, F280 q → G q ∨ w.heap.size ≤ q := fun q hq => by rcases hfr282 q hq with h | h; exact hGr q h; exact .inr (by omega)
    have dis287 : ∀ q, F280 q → ¬ F250 q := fun q h1 h2 => by rcases hfr282 q h1 with h | h; exact dis257 q h2 h; (have h4 := lt254 q h2; omega)
    obtain ⟨hvlhm288, hm288⟩ := Vot.vblk ho251
    have hF289 := Vot.at_ ho251
    have hvlt := hm288.lt
    have hlov := lt254 _ hF289
    have hov := own255 _ hF289
    obtain ⟨hm290, hF291⟩ := Vot.pollB ho251 hqb16w48 hs237
    have hb16lt := hm290.lt
    have hlob16 := lt254 _ hF291
    have hob16 := own255 _ hF291
    obtain ⟨hF293, hm292⟩ := Vot.recN ho251 hgc43 hd32
    have hq38lt := hm292.lt
    have hloq38 := lt254 _ hF293
    have hoq38 := own255 _ hF293
    have hneb16v : b16 ≠ v := Blk.ne hm290 hm288 (by decide)
    have hneq38v : q38 ≠ v := Blk.ne hm292 hm288 (by decide)
    have hneq38b16 : q38 ≠ b16 := Blk.ne hm292 hm290 (by decide)
    refine Oer <| Oen [10] <| V_ret ?_
    have hE294 : voteE xs s who ref x = 0 := by unfold voteE; rw [if_neg (by rintro (h9 | h9); exact h9 hg8; exact h9 hc14)]; rw [hpa16]; dsimp only; rw [if_neg (fun h9 => h9 hc30)]; rw [if_neg (by rw [hd32]; decide)]; rw [if_neg hc81]; rw [if_neg (fun h9 => hc204 h9.2)]
    have hVT : voteT s who ref x q16 = tv236 := by unfold voteT; rw [(show (GV.getC who ref s.cs).isSome = false from by simpa using hg83), htv236]; rfl
    exact Xr (nt 0) ⟨by rw [hE294], ⟨F250, F280, ⟨_, by rw [show voteS xs s who ref x = ({ s.setP i16 { q16 with t := tv236 } with cs := GV.setC who ref x (s.setP i16 { q16 with t := tv236 }).cs }) from by unfold voteS; rw [hE294, if_pos rfl, hpa16]; dsimp only; rw [hVT, hpr16, Int.toNat_natCast]; first | rfl | (simp only [VS.setP_setP]; rfl)]; exact ho251⟩, by rw [show voteC xs cs s who ref x = raiseC cs who q16.track (capI x) from by unfold voteC; rw [hE294, if_pos rfl, hpa16]]; exact ho281, rel256, rel286, (fun q h1 h2 => dis287 q h2 h1)⟩, hK0⟩
   ·
    refine Kg (record_spec F v P s who ((q16).track) _ h (by omega) (htr _ _ (by assumption))) ?_
    rintro _ w309 ⟨q299, P300, rfl, hgc304, hpp305, hgv306, hmn307, hdl308, ⟨F301, ho302, hfr303⟩, hk310⟩
    refine ⟨_, rfl, ?_⟩
    have hsz311 := Keep.size hk310
    replace hl := hl.keep hk310 (fun q hq hs => hdis q hs hq)
    replace hK0 := frl hK0 hk310 hFr
    have own313 : ∀ q, F301 q → 0 ≤ q ∧ q ≠ b1 := fun q hq => by rcases hfr303 q hq with h | h; (have h1 := hFo q h; have h2 := hFlt q h; omega); omega
    have lt312 := Vot.lt ho302
    have rel314 : ∀ q, F301 q → F q ∨ w.heap.size ≤ q := fun q hq => by rcases hfr303 q hq with h | h; exact hFr q h; exact .inr (by omega)
    have dis315 : ∀ q, F301 q → ¬ G q := fun q h1 h2 => by rcases hfr303 q h1 with h | h; exact hdis q h h2; (have h4 := hGlt q h2; omega)
    have hqb16w309 := (show P300.pp[i16]? = some (some ⟨b16, 0, none⟩) from by rw [hpp305]; exact hpp16)
    have hgq299lt := lt312 _ (Vot.at_ ho302)
    obtain ⟨hvlhm316, hm316⟩ := Vot.vblk ho302
    have hF317 := Vot.at_ ho302
    have hvlt := hm316.lt
    have hlov := lt312 _ hF317
    have hov := own313 _ hF317
    obtain ⟨hm318, hF319⟩ := Vot.pollB ho302 hqb16w309 hps16
    have hb16lt := hm318.lt
    have hlob16 := lt312 _ hF319
    have hob16 := own313 _ hF319
    obtain ⟨bd322, hF321, hF323, hm320, hm324⟩ := Vot.recD ho302 hgc304 hd32
    have hbd322lt := hm324.lt
    have hlobd322 := lt312 _ hF323
    have hobd322 := own313 _ hF323
    have hq299lt := hm320.lt
    have hloq299 := lt312 _ hF321
    have hoq299 := own313 _ hF321
    have hneb16v : b16 ≠ v := Blk.ne hm318 hm316 (by decide)
    have hneq299v : q299 ≠ v := Blk.ne hm320 hm316 (by decide)
    have hneq299b16 : q299 ≠ b16 := Blk.ne hm320 hm318 (by decide)
    have hnebd322v : bd322 ≠ v := Blk.ne hm324 hm316 (by decide)
    have hnebd322b16 : bd322 ≠ b16 := Blk.ne hm324 hm318 (by decide)
    have hnebd322q299 : bd322 ≠ q299 := Blk.ne hm324 hm320 (by decide)
    refine On 8 [0, 1, 2, 3, 9, 11, 12] <| Oer <| On 3 [0, 1, 2, 3, 9, 11, 12, 53] <| Lc 12 (pt P300.gv) hm316 (by rw [List.getElem?_append_right (by rw [List.length_map]; omega), List.length_map, hvlhm316]; rfl) ?_
    refine On 6 [0, 1, 2, 3, 9, 11, 12, 54, 55, 56] <| Kk (vget_spec F301 v P300 s who ref _ ho302) fun w327 hk328 _ => ?_
    replace hl := hl.keep hk328 nk
    replace hK0 := hK0.tn hk328
    replace ho302 := ho302.keep hk328 nk
    refine On 10 [0, 1, 2, 3, 9, 11, 12, 58, 59] <| Alc_ 23 (.agg #[nt 0, .bool false, nt 0, nt 0, nt 0, nt 0]) [nt 0, .bool false, nt 0, nt 0, nt 0, nt 0] ?_
    intro b330 w330 e330 hb330 k330 z330
    have hsz331 := Keep.size k330
    replace hm320 := hm320.k0 (hk328.tr k330)
    replace hl := hl.keep k330 nk
    replace hK0 := hK0.tn k330
    replace ho302 := ho302.keep k330 nk
    have hb330lt := hb330.lt
    refine Sg 0 (Vt.cells ((GV.getC who ref s.cs).getD Vt.zero)) hb330 (Vt.len _) (Vt.one _) ?_
    intro w332 hb330_335 hk333 hz334
    replace hb330_335 : Blk w332 b330 (Vt.cells ((GV.getC who ref s.cs).getD Vt.zero)) 23 := (by rwa [over_whole (by rw [Vt.len]; rfl)] at hb330_335)
    have hsz336 := Keep.size hk333
    replace hm320 := hm320.k1 hk333
    replace hl := hl.keep hk333 (fun q hq hs => by have hs : q = b330 := hs; have g0 := hGo q hq; have g1 := hGlt q hq; omega)
    replace hK0 := Keep.fr hK0 hk333
    replace ho302 := ho302.keep hk333 (fun q hq hs => by have hs : q = b330 := hs; have g0 := own313 q hq; have g1 := lt312 q hq; omega)
    refine On 13 [0, 1, 2, 3, 9, 11, 12, 13, 14] <| Oe <| V_seq <| V_block <| Vr <| On 3 [0, 1, 2, 3, 9, 11, 12, 13, 14, 63] <| Lr 0 (pt bd322) hm320 <| Oen [0, 1, 2, 3, 9, 11, 12, 13, 14, 60] <| Vo <| Vn [10] <| V_ret <| X_ret_block <| X_ret_then ?_
    have hE337 : voteE xs s who ref x = 5 := by unfold voteE; rw [if_neg (by rintro (h9 | h9); exact h9 hg8; exact h9 hc14)]; rw [hpa16]; dsimp only; rw [if_neg (fun h9 => h9 hc30)]; rw [if_pos (by rw [hd32]; rfl)]
    exact Xr (nt 5) ⟨by rw [hE337], ⟨F301, G, ⟨_, by rw [show voteS xs s who ref x = s from by unfold voteS; rw [hE337, if_neg (by decide)]]; exact ho302⟩, by rw [show voteC xs cs s who ref x = cs from by unfold voteC; rw [hE337, if_neg (by decide)]]; exact hl, rel314, hGr, dis315⟩, hK0⟩
 refine Nf 26 hg8 <| Oen [0, 1, 2, 3, 9, 30] <| Vo <| Vn [10] <| Rt ?_
 have hE338 : voteE xs s who ref x = 1 := by unfold voteE; rw [if_pos (.inl hg8)]
 exact Xr (nt 1) ⟨by rw [hE338], ⟨F, G, ⟨_, by rw [show voteS xs s who ref x = s from by unfold voteS; rw [hE338, if_neg (by decide)]]; exact h⟩, by rw [show voteC xs cs s who ref x = cs from by unfold voteC; rw [hE338, if_neg (by decide)]]; exact hl, hFr, hGr, hdis⟩, hK0⟩
end Go.Al
namespace Go.Al
open Go Go.RowKit Go.Proofs
def unvE (s : VS) (who ref : Int) : Int := if ¬ (0 ≤ who ∧ who ≤ 9) then 1 else match pollAt s ref with
  | none => 4
  | some _ => if (GV.getC who ref s.cs).isSome = true then 0 else 4
def unvS (s : VS) (who ref now : Int) : VS := if unvE s who ref = 0 then (match pollAt s ref with
  | none => s
  | some q => if q.state = 0 then ({ s with cs := GV.delC who ref s.cs } : VS).setP ref.toNat { q with t := subT q.t (gainT ((GV.getC who ref s.cs).getD Vt.zero) (s.rc who q.track).got) }
    else if wonV ((GV.getC who ref s.cs).getD Vt.zero) q.state = true then ({ s with cs := GV.delC who ref s.cs } : VS).setR who q.track (joinR (s.rc who q.track) (w64 (q.stop + cvPeriod ((GV.getC who ref s.cs).getD Vt.zero).level 8)) ((GV.getC who ref s.cs).getD Vt.zero).a now)
    else { s with cs := GV.delC who ref s.cs }) else s
theorem lev_ok {s : VS} (hi : s.Inv) {who ref st : Int} (h : (GV.getC who ref s.cs).isSome = true) (hw : wonV ((GV.getC who ref s.cs).getD Vt.zero) st = true) : 0 ≤ ((GV.getC who ref s.cs).getD Vt.zero).level ∧ ((GV.getC who ref s.cs).getD Vt.zero).level ≤ 6 := by
  cases hg : GV.getC who ref s.cs with
  | none => rw [hg] at h; cases h
  | some y =>
    rw [hg] at hw
    show 0 ≤ y.level ∧ y.level ≤ 6
    obtain ⟨c, hc, _, _, hv⟩ := GV.getC_mem hg
    obtain ⟨_, _, hok, _⟩ := hi.votes c hc
    rw [hv] at hok
    have hk : y.kind = 1 := by
      unfold wonV at hw
      simp only [Bool.and_eq_true, decide_eq_true_eq] at hw
      exact hw.1
    unfold okV at hok
    omega
def delE (xs : List Acc) (s : VS) (who t to level n : Int) : Int := if ¬ (0 ≤ who ∧ who ≤ 9) ∨ ¬ (0 ≤ to ∧ to ≤ 9) ∨ ¬ (0 ≤ t ∧ t ≤ 3) ∨ ¬ (0 ≤ level ∧ level ≤ 6) ∨ ¬ (0 ≤ n ∧ n ≤ 1073741824) ∨ ¬ ¬ who = to then 1
  else if (s.rc who t).d.isSome = true then 5 else if (((vrow s who t).length : Nat) : Int) > 0 then 9 else if n > (acct xs who).free then 6 else 0
def delS (xs : List Acc) (s : VS) (who t to level n : Int) : VS := if delE xs s who t to level n = 0 then getsS (s.setR who t { s.rc who t with d := some (DelS.mk to level n) }) to t (Wgt.mk (cvVotes n level) n) else s
def delC2 (xs : List Acc) (cs : List Ci) (s : VS) (who t to level n : Int) : List Ci := if delE xs s who t to level n = 0 then raiseC cs who t n else cs
def undE (s : VS) (who t : Int) : Int := if ¬ (0 ≤ who ∧ who ≤ 9) ∨ ¬ (0 ≤ t ∧ t ≤ 3) then 1 else if (s.rc who t).d.isSome = true then 0 else 4
def undS1 (s : VS) (who t : Int) (d : DelS) : VS := getsS (s.setR who t { s.rc who t with d := none }) d.to t (Wgt.mk (w64 (0 - cvVotes d.n d.level)) (w64 (0 - d.n)))
def undS (s : VS) (who t now : Int) : VS := if undE s who t = 0 then (match (s.rc who t).d with
  | none => s
  | some d => (undS1 s who t d).setR who t (joinR ((undS1 s who t d).rc who t) (w64 (now + cvPeriod d.level 8)) d.n now)) else s
def unlE (who t : Int) : Int := if ¬ (0 ≤ who ∧ who ≤ 9) ∨ ¬ (0 ≤ t ∧ t ≤ 3) then 1 else 0
def unlR (r : RecS) (now : Int) : RecS := if r.till ≤ now then { r with till := 0, n := 0 } else r
def mostL (m : Int) (l : List (Int × Vt)) : Int := l.foldl (fun m c => if capI c.2 > m then capI c.2 else m) m
def unlM (s : VS) (who t now : Int) : Int := mostL (unlR (s.rc who t) now).n (vrow s who t)
def unlN (s : VS) (who t now : Int) : Int := match (s.rc who t).d with
  | none => unlM s who t now
  | some d => if d.n > unlM s who t now then d.n else unlM s who t now
def unlS (s : VS) (who t now : Int) : VS := if unlE who t = 0 ∧ (s.rc who t).till ≤ now then s.setR who t (unlR (s.rc who t) now) else s
def unlC (cs : List Ci) (s : VS) (who t now : Int) : List Ci := if unlE who t = 0 then lockC cs who t (unlN s who t now) else cs
theorem mostL_step {m : Int} {l : List (Int × Vt)} {k : Nat} {c : Int × Vt} (h : l[k]? = some c) : mostL m (l.take (k + 1)) = if capI c.2 > mostL m (l.take k) then capI c.2 else mostL m (l.take k) := by
  obtain ⟨h1, rfl⟩ := List.getElem?_eq_some_iff.1 h
  unfold mostL
  rw [List.take_succ_eq_append_getElem h1, List.foldl_append]; rfl
theorem VS.setR_setR (s : VS) (a t : Int) (x y : RecS) : (s.setR a t x).setR a t y = s.setR a t y := by
  unfold VS.setR
  congr 1
  funext u v
  unfold updR
  split
  · rfl
  · rename_i h; show (if u = a ∧ v = t then x else s.rc u v) = _; rw [if_neg h]
end Go.Al
namespace Go.Al
open Go Go.RowKit Go.Proofs
set_option maxHeartbeats 1000000 in
theorem delegate_at (F G : Nat → Prop) (v l : Nat) (P : VP) (s : VS) (xs : List Acc) (cs : List Ci) (who t to level n : Int) (w : World) (h : Vot F w v P s) (hl : Led G w l xs cs) (hdis : ∀ q, F q → ¬ G q) (hmax : cs.length < 100000) : Calls Tryz.prog 17 #[pt v, pt l, nt who, nt t, nt to, nt level, nt n] w fun e w' => e = .returned (nt (delE xs s who t to level n)) ∧ (∃ F' G', VotE F' w' v (delS xs s who t to level n) ∧ Led G' w' l xs (delC2 xs cs s who t to level n) ∧ (∀ q, F' q → F q ∨ w.heap.size ≤ q) ∧ (∀ q, G' q → G q ∨ w.heap.size ≤ q) ∧ (∀ q, F' q → ¬ G' q)) ∧ Keep (fun q => F q ∨ G q) w w' := by
 have hFlt := Vot.lt h
 have hvlt := hFlt _ (Vot.at_ h)
 have hFo : ∀ q, F q → 0 ≤ q := fun q _ => Nat.zero_le q
 have hFr : ∀ q, F q → F q ∨ w.heap.size ≤ q := fun _ h => .inl h
 have hGlt := Led.lt hl
 have hllt := hGlt _ (Led.at_ hl)
 have hGo : ∀ q, G q → 0 ≤ q := fun q _ => Nat.zero_le q
 have hGr : ∀ q, G q → G q ∨ w.heap.size ≤ q := fun _ h => .inl h
 have hK0 : Keep (fun q => F q ∨ G q) w w := Keep.refl _ _
 refine eV ?_
 refine Vr <| On 1 [0, 1, 2, 3, 4, 5, 6] <| Oe <| V_seq <| Vr <| On 8 [0, 1, 2, 3, 4, 5, 6, 22, 23] <| Kq (isAcc_spec who _) <| On 12 [0, 1, 2, 3, 4, 5, 6, 27] ?_
 by_cases hg6 : 0 ≤ who ∧ who ≤ 9
 ·
  refine Nt 27 hg6 <| On 13 [0, 1, 2, 3, 4, 5, 6, 27, 28] <| Kq (isAcc_spec to _) <| On 17 [0, 1, 2, 3, 4, 5, 6, 32] ?_
  by_cases hg12 : 0 ≤ to ∧ to ≤ 9
  ·
   refine Nt 32 hg12 <| On 18 [0, 1, 2, 3, 4, 5, 6, 32, 33] <| Kq (isTrk_spec t _) <| On 22 [0, 1, 2, 3, 4, 5, 6, 37] ?_
   by_cases hg18 : 0 ≤ t ∧ t ≤ 3
   ·
    refine Nt 37 hg18 <| On 23 [0, 1, 2, 3, 4, 5, 6, 37, 38] <| Kq (vIn_spec level 0 6 _) <| On 27 [0, 1, 2, 3, 4, 5, 6, 42] ?_
    by_cases hg24 : (0 : Int) ≤ level ∧ level ≤ 6
    ·
     refine Nt 42 hg24 <| On 28 [0, 1, 2, 3, 4, 5, 6, 42, 43] <| Kq (vIn_spec n 0 1073741824 _) <| On 32 [0, 1, 2, 3, 4, 5, 6, 47] ?_
     by_cases hg30 : (0 : Int) ≤ n ∧ n ≤ 1073741824
     ·
      refine Nt 47 hg30 <| Oen [0, 1, 2, 3, 4, 5, 6, 51] <| Vi (who = to) (fun hc31 => ?_) (fun hc31 => ?_)
      ·
       refine Vn [14] <| Rt ?_
       have hE32 : delE xs s who t to level n = 1 := by unfold delE; rw [if_pos (.inr (.inr (.inr (.inr (.inr ((fun h9 => h9 hc31)))))))]
       exact Xr (nt 1) ⟨by rw [hE32], ⟨F, G, ⟨_, by rw [show delS xs s who t to level n = s from by unfold delS; rw [hE32, if_neg (by decide)]]; exact h⟩, by rw [show delC2 xs cs s who t to level n = cs from by unfold delC2; rw [hE32, if_neg (by decide)]]; exact hl, hFr, hGr, hdis⟩, hK0⟩
      refine Vsk <| Vr <| On 3 [0, 1, 2, 3, 4, 5, 6, 52, 53, 54] ?_
      rcases hd33 : (s.rc who t).d with _ | d34
      ·
       refine Kg (record_spec F v P s who t _ h (by omega) (by omega)) ?_
       rintro _ w49 ⟨q39, P40, rfl, hgc44, hpp45, hgv46, hmn47, hdl48, ⟨F41, ho42, hfr43⟩, hk50⟩
       refine ⟨_, rfl, ?_⟩
       have hsz51 := Keep.size hk50
       replace hl := hl.keep hk50 (fun q hq hs => hdis q hs hq)
       replace hK0 := frl hK0 hk50 hFr
       have own53 : ∀ q, F41 q → 0 ≤ q := fun q hq => by rcases hfr43 q hq with h | h; (have h1 := hFo q h; have h2 := hFlt q h; omega); omega
       have lt52 := Vot.lt ho42
       have rel54 : ∀ q, F41 q → F q ∨ w.heap.size ≤ q := fun q hq => by rcases hfr43 q hq with h | h; exact hFr q h; exact .inr (by omega)
       have dis55 : ∀ q, F41 q → ¬ G q := fun q h1 h2 => by rcases hfr43 q h1 with h | h; exact hdis q h h2; (have h4 := hGlt q h2; omega)
       have hgq39lt := lt52 _ (Vot.at_ ho42)
       obtain ⟨hF57, hm56⟩ := Vot.recN ho42 hgc44 hd33
       have hq39lt := hm56.lt
       have hloq39 := lt52 _ hF57
       have hoq39 := own53 _ hF57
       refine On 5 [0, 1, 2, 3, 4, 5, 6, 15] <| Oe <| V_seq <| V_block <| Vr <| On 3 [0, 1, 2, 3, 4, 5, 6, 15, 59] <| Lr 0 (.pointer none) hm56 <| Oen [0, 1, 2, 3, 4, 5, 6, 15, 56] <| Vf <| Vr <| On 3 [0, 1, 2, 3, 4, 5, 6, 15, 63, 64, 65] <| Kk (count_spec F41 v P40 s who t _ ho42) fun w60 hk61 _ => ?_
       replace hm56 := hm56.k0 hk61
       replace hl := hl.keep hk61 nk
       replace hK0 := hK0.tn hk61
       replace ho42 := ho42.keep hk61 nk
       refine Oen [0, 1, 2, 3, 4, 5, 6, 15, 62] <| Vi ((((vrow s who t).length : Nat) : Int) > 0) (fun hc63 => ?_) (fun hc63 => ?_)
       ·
        refine Vn [14] <| V_ret <| X_ret_block <| X_ret_then ?_
        have hE64 : delE xs s who t to level n = 9 := by unfold delE; rw [if_neg (by rintro (h9 | h9 | h9 | h9 | h9 | h9); exact h9 hg6; exact h9 hg12; exact h9 hg18; exact h9 hg24; exact h9 hg30; exact h9 hc31)]; rw [if_neg (by rw [hd33]; decide)]; rw [if_pos hc63]
        exact Xr (nt 9) ⟨by rw [hE64], ⟨F41, G, ⟨_, by rw [show delS xs s who t to level n = s from by unfold delS; rw [hE64, if_neg (by decide)]]; exact ho42⟩, by rw [show delC2 xs cs s who t to level n = cs from by unfold delC2; rw [hE64, if_neg (by decide)]]; exact hl, rel54, hGr, dis55⟩, hK0⟩
       refine Vr <| On 3 [0, 1, 2, 3, 4, 5, 6, 15, 69, 70, 71] <| Kk (free_spec G l xs cs who _ hl) fun w65 hk66 _ => ?_
       replace hm56 := hm56.k0 hk66
       replace hl := hl.keep hk66 nk
       replace hK0 := hK0.tn hk66
       replace ho42 := ho42.keep hk66 nk
       refine Oen [0, 1, 2, 3, 4, 5, 6, 15, 68] <| Vi (n > (acct xs who).free) (fun hc68 => ?_) (fun hc68 => ?_)
       ·
        refine Vn [14] <| V_ret <| X_ret_block <| X_ret_then ?_
        have hE69 : delE xs s who t to level n = 6 := by unfold delE; rw [if_neg (by rintro (h9 | h9 | h9 | h9 | h9 | h9); exact h9 hg6; exact h9 hg12; exact h9 hg18; exact h9 hg24; exact h9 hg30; exact h9 hc31)]; rw [if_neg (by rw [hd33]; decide)]; rw [if_neg hc63]; rw [if_pos hc68]
        exact Xr (nt 6) ⟨by rw [hE69], ⟨F41, G, ⟨_, by rw [show delS xs s who t to level n = s from by unfold delS; rw [hE69, if_neg (by decide)]]; exact ho42⟩, by rw [show delC2 xs cs s who t to level n = cs from by unfold delC2; rw [hE69, if_neg (by decide)]]; exact hl, rel54, hGr, dis55⟩, hK0⟩
       refine V_skip <| X_block <| X_then <| Vr <| On 5 [0, 1, 2, 3, 4, 5, 6, 74, 78] <| Bx 101 [nt to, nt level, nt n] ?_
       intro b70 w70 e70 hb70 k70 z70
       have hsz71 := Keep.size k70
       replace hm56 := hm56.k0 k70
       replace hl := hl.keep k70 nk
       replace hK0 := hK0.tn k70
       replace ho42 := ho42.keep k70 nk
       have hb70lt := hb70.lt
       refine On 8 [0, 1, 2, 3, 4, 5, 6, 79, 81] ?_
       have hF076 : ¬ F41 b70 := fun hh => by have h9 := lt52 _ hh; omega
       refine St_ 0 (pt b70) hm56 ?_
       intro w72 hn75 hk73 hz74
       replace hn75 : Blk w72 q39 [pt b70, nt (((s.rc who t)).got.v), nt (((s.rc who t)).got.c), nt (((s.rc who t)).till), nt (((s.rc who t)).n)] 99 := hn75
       have hsz77 := Keep.size hk73
       replace hl := hl.keep hk73 (fun q hq hs => dis55 q (by rw [show q = q39 from hs]; exact hF57) hq)
       replace hK0 := Keep.fresh hK0 hk73 (fun i hi hs => by have hs : F41 i := (by rw [show i = q39 from hs]; exact hF57); rcases rel54 i hs with h | h; exact .inl h; (exfalso; omega))
       obtain ⟨F79, ho78, hfd80⟩ := Vot.setDelE (a := who) (t := t) (r' := { (s.rc who t) with d := some (DelS.mk to level n) }) (d := (DelS.mk to level n)) ho42 hgc44 hm56 hb70 hF076 hk73 (show Blk _ _ (RecS.cells (some ⟨b70, 0, none⟩) { (s.rc who t) with d := some (DelS.mk to level n) }) _ from hn75) rfl (by intro d hd; simp only [Option.some.injEq] at hd; subst hd; simp only []; omega)
       have hfr81 : ∀ q, F79 q → F41 q ∨ w65.heap.size ≤ q := fun q hq => (hfd80 q hq).imp id (fun h => by omega)
       have own83 : ∀ q, F79 q → 0 ≤ q := fun q hq => by rcases hfr81 q hq with h | h; (have h1 := own53 q h; have h2 := lt52 q h; omega); omega
       have lt82 := Vot.lt ho78
       have rel84 : ∀ q, F79 q → F q ∨ w.heap.size ≤ q := fun q hq => by rcases hfr81 q hq with h | h; exact rel54 q h; exact .inr (by omega)
       have dis85 : ∀ q, F79 q → ¬ G q := fun q h1 h2 => by rcases hfr81 q h1 with h | h; exact dis55 q h h2; (have h4 := hGlt q h2; omega)
       obtain ⟨bd88, hF87, hF89, hm86, hm90⟩ := Vot.recD ho78 hgc44 (by rw [show (s.setR who t { (s.rc who t) with d := some (DelS.mk to level n) }).rc who t = { (s.rc who t) with d := some (DelS.mk to level n) } from (updR_self _ _ _ _)]; first | done | exact rfl)
       have hbd88lt := hm90.lt
       have hlobd88 := lt82 _ hF89
       have hobd88 := own83 _ hF89
       rw [show (s.setR who t { (s.rc who t) with d := some (DelS.mk to level n) }).rc who t = { (s.rc who t) with d := some (DelS.mk to level n) } from (updR_self _ _ _ _)] at hm86
       have hq39lt := hm86.lt
       have hloq39 := lt82 _ hF87
       have hoq39 := own83 _ hF87
       have hnebd88q39 : bd88 ≠ q39 := Blk.ne hm90 hm86 (by decide)
       refine Oer <| On 5 [1, 2, 3, 6, 82, 83, 84, 85, 86] <| Kq (cvVotes_spec n level _) <| On 8 [1, 2, 3, 6, 82, 83, 84, 89] <| Kg (gets_spec F79 v P40 (s.setR who t { (s.rc who t) with d := some (DelS.mk to level n) }) to t (Wgt.mk (cvVotes n level) n) _ ho78 (by omega) (by omega)) ?_
       rintro _ w98 ⟨rfl, P100, hpp104, hgv105, hmn106, hdl107, ⟨F101, ho102, hfr103⟩, hk99⟩
       refine ⟨_, rfl, ?_⟩
       have hsz108 := Keep.size hk99
       replace hl := hl.keep hk99 (fun q hq hs => dis85 q hs hq)
       replace hK0 := frl hK0 hk99 rel84
       have own110 : ∀ q, F101 q → 0 ≤ q := fun q hq => by rcases hfr103 q hq with h | h; (have h1 := own83 q h; have h2 := lt82 q h; omega); omega
       have lt109 := Vot.lt ho102
       have rel111 : ∀ q, F101 q → F q ∨ w.heap.size ≤ q := fun q hq => by rcases hfr103 q hq with h | h; exact rel84 q h; exact .inr (by omega)
       have dis112 : ∀ q, F101 q → ¬ G q := fun q h1 h2 => by rcases hfr103 q h1 with h | h; exact dis85 q h h2; (have h4 := hGlt q h2; omega)
       have hqq39w98 := hmn106 _ _ _ hgc44
       refine Oer <| On 4 [91, 92, 93, 94] <| Kg (raise_spec G l xs cs who t n _ hl hmax) ?_
       rintro _ w115 ⟨rfl, ⟨F117, ho118, hfr119⟩, hk116⟩
       refine ⟨_, rfl, ?_⟩
       have hsz120 := Keep.size hk116
       replace hK0 := frR hK0 hk116 hGr
       replace ho102 := ho102.keep hk116 (fun q hq hs => dis112 q hq hs)
       have own122 : ∀ q, F117 q → 0 ≤ q := fun q hq => by rcases hfr119 q hq with h | h; (have h1 := hGo q h; have h2 := hGlt q h; omega); omega
       have lt121 := Led.lt ho118
       have rel123 : ∀ q, F117 q → G q ∨ w.heap.size ≤ q := fun q hq => by rcases hfr119 q hq with h | h; exact hGr q h; exact .inr (by omega)
       have dis124 : ∀ q, F117 q → ¬ F101 q := fun q h1 h2 => by rcases hfr119 q h1 with h | h; exact dis112 q h2 h; (have h4 := lt109 q h2; omega)
       refine Oer <| Oen [14] <| V_ret ?_
       have hE125 : delE xs s who t to level n = 0 := by unfold delE; rw [if_neg (by rintro (h9 | h9 | h9 | h9 | h9 | h9); exact h9 hg6; exact h9 hg12; exact h9 hg18; exact h9 hg24; exact h9 hg30; exact h9 hc31)]; rw [if_neg (by rw [hd33]; decide)]; rw [if_neg hc63]; rw [if_neg hc68]
       exact Xr (nt 0) ⟨by rw [hE125], ⟨F101, F117, ⟨_, by rw [show delS xs s who t to level n = (getsS (s.setR who t { (s.rc who t) with d := some (DelS.mk to level n) }) to t (Wgt.mk (cvVotes n level) n)) from by unfold delS; rw [hE125, if_pos rfl]]; exact ho102⟩, by rw [show delC2 xs cs s who t to level n = raiseC cs who t n from by unfold delC2; rw [hE125, if_pos rfl]]; exact ho118, rel111, rel123, (fun q h1 h2 => dis124 q h2 h1)⟩, hK0⟩
      ·
       refine Kg (record_spec F v P s who t _ h (by omega) (by omega)) ?_
       rintro _ w140 ⟨q130, P131, rfl, hgc135, hpp136, hgv137, hmn138, hdl139, ⟨F132, ho133, hfr134⟩, hk141⟩
       refine ⟨_, rfl, ?_⟩
       have hsz142 := Keep.size hk141
       replace hl := hl.keep hk141 (fun q hq hs => hdis q hs hq)
       replace hK0 := frl hK0 hk141 hFr
       have own144 : ∀ q, F132 q → 0 ≤ q := fun q hq => by rcases hfr134 q hq with h | h; (have h1 := hFo q h; have h2 := hFlt q h; omega); omega
       have lt143 := Vot.lt ho133
       have rel145 : ∀ q, F132 q → F q ∨ w.heap.size ≤ q := fun q hq => by rcases hfr134 q hq with h | h; exact hFr q h; exact .inr (by omega)
       have dis146 : ∀ q, F132 q → ¬ G q := fun q h1 h2 => by rcases hfr134 q h1 with h | h; exact hdis q h h2; (have h4 := hGlt q h2; omega)
       have hgq130lt := lt143 _ (Vot.at_ ho133)
       obtain ⟨bd149, hF148, hF150, hm147, hm151⟩ := Vot.recD ho133 hgc135 hd33
       have hbd149lt := hm151.lt
       have hlobd149 := lt143 _ hF150
       have hobd149 := own144 _ hF150
       have hq130lt := hm147.lt
       have hloq130 := lt143 _ hF148
       have hoq130 := own144 _ hF148
       have hnebd149q130 : bd149 ≠ q130 := Blk.ne hm151 hm147 (by decide)
       refine On 5 [0, 1, 2, 3, 4, 5, 6, 15] <| Oe <| V_seq <| V_block <| Vr <| On 3 [0, 1, 2, 3, 4, 5, 6, 15, 59] <| Lr 0 (pt bd149) hm147 <| Oen [0, 1, 2, 3, 4, 5, 6, 15, 56] <| Vo <| Vn [14] <| V_ret <| X_ret_block <| X_ret_then ?_
       have hE152 : delE xs s who t to level n = 5 := by unfold delE; rw [if_neg (by rintro (h9 | h9 | h9 | h9 | h9 | h9); exact h9 hg6; exact h9 hg12; exact h9 hg18; exact h9 hg24; exact h9 hg30; exact h9 hc31)]; rw [if_pos (by rw [hd33]; rfl)]
       exact Xr (nt 5) ⟨by rw [hE152], ⟨F132, G, ⟨_, by rw [show delS xs s who t to level n = s from by unfold delS; rw [hE152, if_neg (by decide)]]; exact ho133⟩, by rw [show delC2 xs cs s who t to level n = cs from by unfold delC2; rw [hE152, if_neg (by decide)]]; exact hl, rel145, hGr, dis146⟩, hK0⟩
     refine Nf 47 hg30 <| Oen [0, 1, 2, 3, 4, 5, 6, 51] <| Vo <| Vn [14] <| Rt ?_
     have hE153 : delE xs s who t to level n = 1 := by unfold delE; rw [if_pos (.inr (.inr (.inr (.inr (.inl hg30)))))]
     exact Xr (nt 1) ⟨by rw [hE153], ⟨F, G, ⟨_, by rw [show delS xs s who t to level n = s from by unfold delS; rw [hE153, if_neg (by decide)]]; exact h⟩, by rw [show delC2 xs cs s who t to level n = cs from by unfold delC2; rw [hE153, if_neg (by decide)]]; exact hl, hFr, hGr, hdis⟩, hK0⟩
    refine Nf 42 hg24 <| Oen [0, 1, 2, 3, 4, 5, 6, 51] <| Vo <| Vn [14] <| Rt ?_
    have hE154 : delE xs s who t to level n = 1 := by unfold delE; rw [if_pos (.inr (.inr (.inr (.inl hg24))))]
    exact Xr (nt 1) ⟨by rw [hE154], ⟨F, G, ⟨_, by rw [show delS xs s who t to level n = s from by unfold delS; rw [hE154, if_neg (by decide)]]; exact h⟩, by rw [show delC2 xs cs s who t to level n = cs from by unfold delC2; rw [hE154, if_neg (by decide)]]; exact hl, hFr, hGr, hdis⟩, hK0⟩
   refine Nf 37 hg18 <| Oen [0, 1, 2, 3, 4, 5, 6, 51] <| Vo <| Vn [14] <| Rt ?_
   have hE155 : delE xs s who t to level n = 1 := by unfold delE; rw [if_pos (.inr (.inr (.inl hg18)))]
   exact Xr (nt 1) ⟨by rw [hE155], ⟨F, G, ⟨_, by rw [show delS xs s who t to level n = s from by unfold delS; rw [hE155, if_neg (by decide)]]; exact h⟩, by rw [show delC2 xs cs s who t to level n = cs from by unfold delC2; rw [hE155, if_neg (by decide)]]; exact hl, hFr, hGr, hdis⟩, hK0⟩
  refine Nf 32 hg12 <| Oen [0, 1, 2, 3, 4, 5, 6, 51] <| Vo <| Vn [14] <| Rt ?_
  have hE156 : delE xs s who t to level n = 1 := by unfold delE; rw [if_pos (.inr (.inl hg12))]
  exact Xr (nt 1) ⟨by rw [hE156], ⟨F, G, ⟨_, by rw [show delS xs s who t to level n = s from by unfold delS; rw [hE156, if_neg (by decide)]]; exact h⟩, by rw [show delC2 xs cs s who t to level n = cs from by unfold delC2; rw [hE156, if_neg (by decide)]]; exact hl, hFr, hGr, hdis⟩, hK0⟩
 refine Nf 27 hg6 <| Oen [0, 1, 2, 3, 4, 5, 6, 51] <| Vo <| Vn [14] <| Rt ?_
 have hE157 : delE xs s who t to level n = 1 := by unfold delE; rw [if_pos (.inl hg6)]
 exact Xr (nt 1) ⟨by rw [hE157], ⟨F, G, ⟨_, by rw [show delS xs s who t to level n = s from by unfold delS; rw [hE157, if_neg (by decide)]]; exact h⟩, by rw [show delC2 xs cs s who t to level n = cs from by unfold delC2; rw [hE157, if_neg (by decide)]]; exact hl, hFr, hGr, hdis⟩, hK0⟩
end Go.Al
namespace Go.Al
open Go Go.RowKit Go.Proofs
variable {s : VS}
def VS.zero : VS := ⟨List.replicate 12 none, [], fun _ _ => RecS.zero⟩
theorem Vot.new {F1 F2 : Nat → Prop} {w : World} {v gv gr : Nat} (h1 : GV.Grd F1 w gv []) (h2 : GR.Grd F2 w gr []) (hb : Blk w v ((List.replicate 12 none).map Value.pointer ++ [pt gv, pt gr]) 94) (d12 : ∀ q, F1 q → ¬ F2 q) (n1 : ∀ q, F1 q → q ≠ v) (n2 : ∀ q, F2 q → q ≠ v) :
    Vot (fun q => F1 q ∨ F2 q ∨ q = v) w v ⟨gv, gr, List.replicate 12 none, []⟩ VS.zero := by
  refine ⟨F1, F2, fun q => q = v, ⟨⟨rfl, (fun c hc => by cases hc),(fun a t d hd => by cases hd)⟩, h1, h2, rfl, fun q hq => by rw [hq]; exact hb.lt, d12, n1, n2, rfl, hb, fun i hi => ?_, ?_, fun c hc => (by cases hc), fun a t => .inl ⟨rfl, rfl⟩, ?_⟩, fun _ h => .inl h, fun _ h => .inr (.inl h), fun _ h => .inr (.inr h), ?_⟩
  · left
    show (List.replicate 12 none)[i]? = some none ∧ (List.replicate 12 none)[i]? = some none
    rw [List.getElem?_replicate, List.getElem?_replicate, if_pos hi, if_pos hi]; exact ⟨rfl, rfl⟩
  · intro i j b hi
    have hi' : (List.replicate 12 (none : Option Addr))[i]? = some (some ⟨b, 0, none⟩) := hi
    rw [List.getElem?_replicate] at hi'
    split at hi' <;> cases hi'
  · intro a t a' t' q hq; cases hq
  · rintro q (h | h | rfl)
    · exact h1.lt q h
    · exact h2.lt q h
    · exact hb.lt
theorem TrkOk.zero : TrkOk VS.zero := by
  intro i q h
  have h' : (List.replicate 12 (none : Option PollS))[i]? = some (some q) := h
  rw [List.getElem?_replicate] at h'
  split at h' <;> cases h'
theorem TrkOk.setP (h : TrkOk s) {i : Nat} {q : PollS} (hq : 0 ≤ q.track ∧ q.track < 4) : TrkOk (s.setP i q) := by
  intro j q' e
  have e' : (s.ps.set i (some q))[j]? = some (some q') := e
  rw [List.getElem?_set] at e'
  split at e'
  · split at e'
    · simp only [Option.some.injEq] at e'; rw [← e']; exact hq
    · cases e'
  · exact h j q' e'
theorem TrkOk.poll (h : TrkOk s) {ref : Int} {q : PollS} (e : pollAt s ref = some q) : 0 ≤ q.track ∧ q.track < 4 := by
  unfold pollAt at e
  split at e
  · cases hg : s.ps[ref.toNat]? with
    | none => rw [hg] at e; cases e
    | some x => rw [hg] at e; exact h _ _ (by rw [hg]; exact congrArg some e)
  · cases e
theorem TrkOk.cs (h : TrkOk s) (c : List GV.Ci) : TrkOk { s with cs := c } := h
theorem TrkOk.setR (h : TrkOk s) (a t : Int) (r : RecS) : TrkOk (s.setR a t r) := h
theorem TrkOk.retally {was now : Wgt} : ∀ (l : List (Int × Vt)) {s : VS}, TrkOk s → TrkOk (retally was now s l)
  | [], s, h => h
  | c :: l, s, h => by
    refine TrkOk.retally l (s := retally1 was now s c) ?_
    unfold retally1
    split
    · rename_i q hq
      split
      · exact h.setP (show 0 ≤ q.track ∧ q.track < 4 from h _ _ hq)
      · exact h
    · exact h
theorem TrkOk.gets (h : TrkOk s) (a t : Int) (wt : Wgt) : TrkOk (getsS s a t wt) := TrkOk.retally _ (h.setR a t _)
theorem TrkOk.openS (h : TrkOk s) (ref t : Int) : TrkOk (openS s ref t) := by
  unfold Al.openS
  split
  · rename_i he
    refine h.setP ?_
    show 0 ≤ t ∧ t < 4
    unfold openE at he
    split at he
    · cases he
    · omega
  · exact h
theorem TrkOk.closeS (h : TrkOk s) (ref st en : Int) : TrkOk (closeS s ref st en) := by
  unfold Al.closeS
  split
  · exact h
  · rename_i q hq
    split
    · exact h.setP (show 0 ≤ q.track ∧ q.track < 4 from h.poll hq)
    · exact h
theorem TrkOk.voteS (h : TrkOk s) (xs : List Acc) (who ref : Int) (x : Vt) : TrkOk (voteS xs s who ref x) := by
  unfold Al.voteS
  split
  · split
    · exact h
    · rename_i q hq; exact h.setP (show 0 ≤ q.track ∧ q.track < 4 from h.poll hq)
  · exact h
theorem TrkOk.unvS (h : TrkOk s) (who ref now : Int) : TrkOk (unvS s who ref now) := by
  unfold Al.unvS
  split
  · split
    · exact h
    · rename_i q hq
      split
      · exact (h.cs _).setP (show 0 ≤ q.track ∧ q.track < 4 from h.poll hq)
      · split
        · exact (h.cs _).setR _ _ _
        · exact h.cs _
  · exact h
theorem TrkOk.delS (h : TrkOk s) (xs : List Acc) (who t to level n : Int) : TrkOk (delS xs s who t to level n) := by
  unfold Al.delS
  split
  · exact (h.setR _ _ _).gets _ _ _
  · exact h
theorem TrkOk.undS (h : TrkOk s) (who t now : Int) : TrkOk (undS s who t now) := by
  unfold Al.undS
  split
  · split
    · exact h
    · exact ((h.setR _ _ _).gets _ _ _).setR _ _ _
  · exact h
theorem TrkOk.unlS (h : TrkOk s) (who t now : Int) : TrkOk (unlS s who t now) := by
  unfold Al.unlS
  split
  · exact h.setR _ _ _
  · exact h
def VotT (F : Nat → Prop) (w : World) (v : Nat) (s : VS) : Prop := VotE F w v s ∧ TrkOk s
section
variable {F S : Nat → Prop} {w w' : World} {v N : Nat} {s : VS}
theorem VotT.lt (h : VotT F w v s) : ∀ q, F q → q < w.heap.size := h.1.lt
theorem VotT.at_ (h : VotT F w v s) : F v := h.1.at_
theorem VotT.keep (h : VotT F w v s) (k : Keep S w w') (hS : ∀ q, F q → ¬ S q) : VotT F w' v s := ⟨h.1.keep k hS, h.2⟩
theorem VotT.quiet (h : VotT F w v s) (k : Keep (lb N w) w w') : VotT F w' v s := ⟨h.1.quiet k, h.2⟩
theorem VotT.inv (h : VotT F w v s) : s.Inv := h.1.inv
end
theorem new_votT (w : World) : Calls Tryz.prog 42 #[] w fun e w' => ∃ v F, e = .returned (pt v) ∧ VotT F w' v VS.zero ∧ Keep none_ w w' ∧ (∀ q, F q → w.heap.size ≤ q) := by
 have hK0 := Keep.refl none_ w
 refine eV ?_
 refine Vr <| On 1 [] <| Oer <| Kg (GV.new_grd _) ?_
 rintro _ w1 ⟨g3, F4, rfl, ho5, hk2, hge6⟩
 refine ⟨_, rfl, ?_⟩
 have hsz7 := Keep.size hk2
 replace hK0 := hK0.tn hk2
 have own8 : ∀ q, F4 q → w.heap.size ≤ q := fun q hq => by have h1 := hge6 q hq; omega
 have lt9 := GV.Grd.lt ho5
 have hg3lt : g3 < w1.heap.size := GV.Grd.lt ho5 _ (GV.Grd.at_ ho5)
 have hg3ge := hge6 _ (GV.Grd.at_ ho5)
 refine Kg (GR.new_grd _) ?_
 rintro _ w10 ⟨g12, F13, rfl, ho14, hk11, hge15⟩
 refine ⟨_, rfl, ?_⟩
 have hsz16 := Keep.size hk11
 replace hK0 := hK0.tn hk11
 replace ho5 := GV.Grd.keep ho5 hk11 nk
 have own17 : ∀ q, F13 q → w1.heap.size ≤ q := fun q hq => by have h1 := hge15 q hq; omega
 have lt18 := GR.Grd.lt ho14
 have dis19 : ∀ q, F13 q → ¬ F4 q := fun q h1 h2 => by have h3 := hge15 q h1; have h4 := lt9 q h2; omega
 have hg12lt : g12 < w10.heap.size := GR.Grd.lt ho14 _ (GR.Grd.at_ ho14)
 have hg12ge := hge15 _ (GR.Grd.at_ ho14)
 refine On 3 [3] <| Bx 94 [.pointer none, .pointer none, .pointer none, .pointer none, .pointer none, .pointer none, .pointer none, .pointer none, .pointer none, .pointer none, .pointer none, .pointer none, pt g3, pt g12] ?_
 intro b20 w20 e20 hb20 k20 z20
 have hsz21 := Keep.size k20
 replace hK0 := hK0.tn k20
 replace ho5 := GV.Grd.keep ho5 k20 nk
 replace ho14 := GR.Grd.keep ho14 k20 nk
 have hb20lt := hb20.lt
 refine Ose [(0, pt b20)] <| V_ret ?_
 exact X_return _ rfl ⟨b20, _, rfl, ⟨⟨_, Vot.new (gv := g3) (gr := g12) ho5 ho14 hb20 (fun q h1 h2 => dis19 q h2 h1) (fun q hq => by have h1 := lt9 q hq; omega) (fun q hq => by have h1 := lt18 q hq; omega)⟩, TrkOk.zero⟩, hK0, fun q hq => by rcases hq with h | h | h; (have h1 := own8 q h; omega); (have h1 := own17 q h; omega); omega⟩
theorem vote_spec (F G : Nat → Prop) (v l : Nat) (s : VS) (xs : List Acc) (cs : List Ci) (who ref : Int) (x : Vt) (w : World) (h : VotT F w v s) (hl : Led G w l xs cs) (hdis : ∀ q, F q → ¬ G q) (hmax : cs.length < 100000) : Calls Tryz.prog 18 #[pt v, pt l, nt who, nt ref, .agg x.cells.toArray] w fun e w' => e = .returned (nt (voteE xs s who ref x)) ∧ (∃ F' G', VotT F' w' v (voteS xs s who ref x) ∧ Led G' w' l xs (voteC xs cs s who ref x) ∧ (∀ q, F' q → F q ∨ w.heap.size ≤ q) ∧ (∀ q, G' q → G q ∨ w.heap.size ≤ q) ∧ (∀ q, F' q → ¬ G' q)) ∧ Keep (fun q => F q ∨ G q) w w' := by
  obtain ⟨⟨P, h⟩, ht⟩ := h
  refine (vote_at F G v l P s xs cs who ref x w h hl hdis ht hmax).mono ?_
  rintro e w' ⟨rfl, ⟨F', G', h1, h2, h3⟩, hk⟩
  exact ⟨rfl, ⟨F', G', ⟨h1, ht.voteS _ _ _ _⟩, h2, h3⟩, hk⟩
theorem delegate_spec (F G : Nat → Prop) (v l : Nat) (s : VS) (xs : List Acc) (cs : List Ci) (who t to level n : Int) (w : World) (h : VotT F w v s) (hl : Led G w l xs cs) (hdis : ∀ q, F q → ¬ G q) (hmax : cs.length < 100000) : Calls Tryz.prog 17 #[pt v, pt l, nt who, nt t, nt to, nt level, nt n] w fun e w' => e = .returned (nt (delE xs s who t to level n)) ∧ (∃ F' G', VotT F' w' v (delS xs s who t to level n) ∧ Led G' w' l xs (delC2 xs cs s who t to level n) ∧ (∀ q, F' q → F q ∨ w.heap.size ≤ q) ∧ (∀ q, G' q → G q ∨ w.heap.size ≤ q) ∧ (∀ q, F' q → ¬ G' q)) ∧ Keep (fun q => F q ∨ G q) w w' := by
  obtain ⟨⟨P, h⟩, ht⟩ := h
  refine (delegate_at F G v l P s xs cs who t to level n w h hl hdis hmax).mono ?_
  rintro e w' ⟨rfl, ⟨F', G', h1, h2, h3⟩, hk⟩
  exact ⟨rfl, ⟨F', G', ⟨h1, ht.delS _ _ _ _ _ _⟩, h2, h3⟩, hk⟩
theorem open_specT (F : Nat → Prop) (v : Nat) (s : VS) (ref t : Int) (w : World) (h : VotT F w v s) : Calls Tryz.prog 16 #[pt v, nt ref, nt t] w fun e w' => e = .returned (nt (openE s ref t)) ∧ (∃ F', VotT F' w' v (openS s ref t) ∧ (∀ q, F' q → F q ∨ w.heap.size ≤ q)) ∧ Keep F w w' := by
  obtain ⟨h, ht⟩ := h
  refine (open_spec F v s ref t w h).mono ?_
  rintro e w' ⟨rfl, ⟨F', h1, h3⟩, hk⟩
  exact ⟨rfl, ⟨F', ⟨h1, ht.openS _ _⟩, h3⟩, hk⟩
theorem close_specT (F : Nat → Prop) (v : Nat) (s : VS) (ref st en : Int) (w : World) (h : VotT F w v s) : Calls Tryz.prog 32 #[pt v, nt ref, nt st, nt en] w fun e w' => e = .returned (nt (closeE s ref st)) ∧ (∃ F', VotT F' w' v (closeS s ref st en) ∧ (∀ q, F' q → F q ∨ w.heap.size ≤ q)) ∧ Keep F w w' := by
  obtain ⟨h, ht⟩ := h
  refine (close_spec F v s ref st en w h).mono ?_
  rintro e w' ⟨rfl, ⟨F', h1, h3⟩, hk⟩
  exact ⟨rfl, ⟨F', ⟨h1, ht.closeS _ _ _⟩, h3⟩, hk⟩
end Go.Al
namespace Go.Al
open Go Go.RowKit Go.Proofs
def ofR (di : Int) : List (Int × Int) → Int
  | [] => 0
  | q :: l => if q.1 = di then q.2 else ofR di l
theorem of_no {di : Int} {l : List (Int × Int)} {i : Nat} {q : Int × Int} (h : l[i]? = some q) (h1 : ¬ q.1 = di) : ofR di (l.drop i) = ofR di (l.drop (i + 1)) := by
  obtain ⟨g, rfl⟩ := List.getElem?_eq_some_iff.1 h
  rw [List.drop_eq_getElem_cons g, ofR, if_neg h1]
theorem of_yes {di : Int} {l : List (Int × Int)} {i : Nat} {q : Int × Int} (h : l[i]? = some q) (h1 : q.1 = di) : ofR di (l.drop i) = q.2 := by
  obtain ⟨g, rfl⟩ := List.getElem?_eq_some_iff.1 h
  rw [List.drop_eq_getElem_cons g, ofR, if_pos h1]
theorem of_has {di n : Int} : ∀ {l : List (Int × Int)}, (l.Pairwise fun x y => x.1 < y.1) → (hasAt di n l = true → n ≤ ofR di l) ∧ (hasAt di n l = false → ofR di l < n ∨ (ofR di l = 0 ∧ ∀ q ∈ l, q.1 ≠ di))
  | [], _ => ⟨fun h => (by cases h), fun _ => .inr ⟨rfl, fun _ h => (by cases h)⟩⟩
  | q :: l, hs => by
    obtain ⟨h1, h2⟩ := List.pairwise_cons.1 hs
    obtain ⟨i1, i2⟩ := of_has (di := di) (n := n) h2
    unfold hasAt at *
    rw [List.any_cons, ofR]
    by_cases e : q.1 = di
    · rw [if_pos e]
      have hl : (l.any fun x => decide (x.1 = di) && decide (n ≤ x.2)) = false := by
        rw [List.any_eq_false]
        intro x hx
        have := h1 x hx
        simp; intro hx2; omega
      rw [hl]
      refine ⟨fun h => by simpa [e] using h, fun h => .inl ?_⟩
      simp [e] at h; omega
    · rw [if_neg e]
      refine ⟨fun h => i1 (by simpa [e] using h), fun h => ?_⟩
      rcases i2 (by simpa [e] using h) with h | ⟨h3, h4⟩
      · exact .inl h
      · exact .inr ⟨h3, fun x hx => by rcases List.mem_cons.1 hx with rfl | hx; exact e; exact h4 x hx⟩
theorem del_none {a id : Int} : ∀ {cs : List Ci}, (∀ q ∈ rowL a cs, q.1 ≠ id) → delC a id cs = cs
  | [], _ => rfl
  | x :: l, h => by
    rw [rowL_cons] at h
    rw [delC, if_neg, del_none (cs := l)]
    · intro q hq; refine h q ?_
      split
      · exact List.mem_cons_of_mem _ hq
      · exact hq
    · rintro ⟨h1, h2⟩
      rw [if_pos h1] at h
      exact h _ (List.mem_cons_self ..) h2
theorem raise_of {cs : List Ci} (hs : Srt cs) (a di n : Int) : raiseC cs a di n = if n > ofR di (rowL a cs) then lockC cs a di n else cs := by
  obtain ⟨h1, h2⟩ := of_has (di := di) (n := n) (row_srt hs a)
  unfold raiseC
  cases hh : hasAt di n (rowL a cs) with
  | true => rw [if_pos rfl, if_neg (by have := h1 hh; omega)]
  | false =>
    rw [if_neg (by decide)]
    rcases h2 hh with h | ⟨h3, h4⟩
    · rw [if_pos h]
    · split
      · rfl
      · unfold lockC
        split
        · rw [if_pos (by omega), del_none h4]
        · rfl
theorem of6_in (F : Nat → Prop) (x : Nat) (xs : List Acc) (cs : List Ci) (j : Nat) (di : Int) (w : World) (h : DLd F w x xs cs) (hj : j < 10) : Calls Tryz.prog 128 #[pt x, nt (j : Int), nt di] w fun e w' => e = .returned (nt (ofR di (rowL (j : Int) cs))) ∧ Keep none_ w w' := by
 obtain ⟨hinv, hcl, hFx, hFlt, A, cap, ds, hdx⟩ := h
 have hx := hdx.blk
 have hA := hdx.sl
 have hxlt := hx.lt
 have hacc := hdx.acc
 have hall := hdx.all
 have hAx : ∀ q, inA A q → q ≠ x := fun q hq => (hdx.own q hq).2
 have hAlt := SlT.lt hA
 have hdl := de_len hacc hinv
 have hcl1 := hcl.1
 have hF0 : ∀ q, F q → F q ∨ w.heap.size ≤ q := fun _ h => .inl h
 have hrl : (rowL (j : Int) cs).length ≤ cs.length := by unfold rowL; rw [List.length_map]; exact List.length_filter_le ..
 have hK0 := Keep.refl none_ w
 refine eV ?_
 refine Vr <| On 1 [0, 1, 2] <| Oe <| V_seq <| Vn [0, 1, 2, 7] <| V_block <| Vp [(0, pt x),(1, nt (j : Int)),(2, nt di),(7, nt 0)] <| V_loop (fun k wI e => ∃ i : Nat, (k + i = (rowL (j : Int) cs).length) ∧ (ofR di (rowL (j : Int) cs) = ofR di ((rowL (j : Int) cs).drop i)) ∧ Keep none_ w wI ∧ e = [(0, pt x),(1, nt (j : Int)),(2, nt di),(7, nt (i : Int))]) ((rowL (j : Int) cs).length) ⟨0, by omega, rfl, Keep.refl _ _, rfl⟩ ?_
 rintro k2 w1 _ ⟨i, hki, hof, hk3, rfl⟩
 have hsz4 := Keep.size hk3
 replace hx := hx.k0 hk3
 replace hA := hA.keep0 hk3
 replace hall := DAll.keep hall hk3 (fun _ _ _ _ f => f)
 replace hK0 := hK0.tn hk3
 have hzhk3 := Keep.size hk3
 refine V_seq <| Vr <| On 1 [0, 1, 2, 7, 8] <| Kq (is6_spec (j : Int) _) <| On 3 [0, 1, 2, 7, 10] <| Oq (u := .bool (isA (j : Int))) (v := .bool true) 10 (by rw [isA_in hj]) <| On 7 [0, 1, 2, 7, 10, 11, 12, 13, 14] <| Lr 0 (.slice A ds.length cap) hx <| On 9 [0, 1, 2, 7, 10, 11, 12, 13, 14, 15, 16] ?_
 obtain ⟨b9, o9, L9, T9, rfl, hat9⟩ := SlT.opn hA
 have hb9lt := hat9.blk.lt
 have hob10 := hAx b9 ⟨_, rfl, rfl⟩
 have hob11 := hAlt b9 ⟨_, rfl, rfl⟩
 refine Oi (b := b9) (o := o9) (len := ds.length) (cap := cap) (j := j) (some 17) 133 (.tmp 15) (.tmp 16) 138 3 40 .i64 <| On 11 [0, 1, 2, 7, 10, 11, 12, 13, 14, 15, 16, 17, 18] ?_
 obtain ⟨x12, hx13⟩ := exAt (xs := ds) (i := j)
 obtain ⟨f14, g14, A14, c14, l14⟩ := x12
 obtain ⟨hls14, hsl14, hso14⟩ := hall j _ hx13
 replace hls14 : l14 = rowL (j : Int) cs := hls14
 replace hsl14 : SlT w1 2 lkc A14 c14 l14 := hsl14
 replace hso14 : ∀ q, inA A14 q → _ := hso14
 obtain ⟨hbf14, hbh14, hbt14, _⟩ := hinv.at_ (de_at hacc hx13)
 replace hbf14 : 0 ≤ f14 := hbf14
 replace hbh14 : 0 ≤ g14 := hbh14
 replace hbt14 : f14 + g14 ≤ 1073741824 := hbt14
 have hsw14 : ∀ q, inA A14 q → q ≠ x ∧ q ≠ b9 ∧ q < w.heap.size := fun q hq => ⟨(hso14 q hq).2.1, fun e => (hso14 q hq).2.2 ⟨_, rfl, e⟩, hFlt q (hso14 q hq).1⟩
 have hsx14 := SlT.lt hsl14
 have hll14 : l14.length = (rowL (j : Int) cs).length := by rw [hls14]
 refine Lc (o9 + j * 3 + 2) (.slice A14 l14.length c14) hat9.blk (At.cell hat9 (es_at hx13) rfl) <| Oen [0, 1, 2, 7, 11, 12, 13, 14, 15, 16, 17, 18, 19, 20, 21, 22] <| Vi ((i : Int) < (l14.length : Int)) (fun hc15 => ?_) (fun hc15 => ?_)
 ·
  refine Vsk <| V_seq <| V_block <| Vr <| On 3 [0, 1, 2, 7, 11, 12, 13, 14, 15, 16, 17, 18, 19, 20, 21, 27] <| Lr 0 (sl_ b9 o9 ds.length cap) hx <| On 5 [0, 1, 2, 7, 11, 12, 13, 14, 15, 16, 17, 18, 19, 20, 21, 28, 29] <| Oi (b := b9) (o := o9) (len := ds.length) (cap := cap) (j := j) (some 30) 133 (.tmp 28) (.tmp 29) 138 3 40 .i64 <| On 7 [0, 1, 2, 7, 11, 12, 13, 14, 15, 16, 17, 18, 19, 20, 21, 31] <| Lc (o9 + j * 3 + 2) (.slice A14 l14.length c14) hat9.blk (At.cell hat9 (es_at hx13) rfl) <| On 9 [0, 1, 2, 7, 11, 12, 13, 14, 15, 16, 17, 18, 19, 20, 21, 32, 33] ?_
  obtain ⟨b16, o16, L16, T16, rfl, hat16⟩ := SlT.opn hsl14
  have hb16lt := hat16.blk.lt
  have hob17 := hsw14 b16 ⟨_, rfl, rfl⟩
  have hob18 := hsx14 b16 ⟨_, rfl, rfl⟩
  refine Oi (b := b16) (o := o16) (len := l14.length) (cap := c14) (j := i) (some 34) 136 (.tmp 32) (.tmp 33) 171 2 16 .i64 <| On 11 [0, 1, 2, 7, 11, 12, 13, 14, 15, 16, 17, 18, 19, 20, 21, 35] ?_
  obtain ⟨x19, hx20⟩ := exAt (xs := l14) (i := i)
  refine Lc (o16 + i * 2) (nt x19.1) hat16.blk (At.cell0 hat16 (es_at hx20) rfl) <| Oen [0, 1, 2, 7, 11, 12, 13, 14, 15, 16, 17, 18, 19, 20, 21, 38] <| Vi (x19.1 = di) (fun hc21 => ?_) (fun hc21 => ?_)
  ·
   exact Vr <| On 3 [1, 7, 41] <| Lr 0 (sl_ b9 o9 ds.length cap) hx <| On 5 [7, 42, 43] <| Oi (b := b9) (o := o9) (len := ds.length) (cap := cap) (j := j) (some 44) 133 (.tmp 42) (.tmp 43) 138 3 40 .i64 <| On 7 [7, 45] <| Lc (o9 + j * 3 + 2) (sl_ b16 o16 l14.length c14) hat9.blk (At.cell hat9 (es_at hx13) rfl) <| On 9 [46, 47] <| Oi (b := b16) (o := o16) (len := l14.length) (cap := c14) (j := i) (some 48) 136 (.tmp 46) (.tmp 47) 171 2 16 .i64 <| On 11 [49] <| Lc (o16 + i * 2 + 1) (nt x19.2) hat16.blk (At.cell hat16 (es_at hx20) rfl) <| Oen [6] <| V_ret <| X_ret_block <| X_ret_then <| X_ret_then <| X_ret_block <| X_ret_then <| Xr (nt x19.2) ⟨by rw [hof, of_yes (by rw [← hls14]; exact hx20) hc21], hK0⟩
  refine V_skip <| X_block <| X_then <| V_region ?_
  have hw22 : i64.wrap ((i : Int) + 1) = ((i + 1 : Nat) : Int) := wrp
  refine On 2 [0, 1, 2, 11, 12, 13, 14, 15, 16, 17, 18, 19, 20, 21, 24] <| Oq (u := nt (i64.wrap ((i : Int) + 1))) (v := nt ((i + 1 : Nat) : Int)) 24 (by rw [hw22]) <| Os 3 [(0, pt x),(1, nt (j : Int)),(2, nt di),(7, nt ((i + 1 : Nat) : Int)),(11, nt (i : Int)),(12, pt x),(13, pt x),(14, pt x),(15, sl_ b9 o9 ds.length cap),(16, nt (j : Int)),(17, .pointer (some ⟨b9, o9 + j * 3, none⟩)),(18, .pointer (some ⟨b9, o9 + j * 3 + 2, none⟩)),(19, sl_ b16 o16 l14.length c14),(20, nt (l14.length : Int)),(21, .bool (decide ((i : Int) < (l14.length : Int))))] <| OI_end rfl ?_
  exact V_again (k2 - 1) (by omega) [(0, pt x),(1, nt (j : Int)),(2, nt di),(7, nt ((i + 1 : Nat) : Int))] rfl ⟨i + 1, by omega, hof.trans (of_no (by rw [← hls14]; exact hx20) hc21), hk3, rfl⟩
 refine V_exit <| X_exit_then <| X_exit_then <| X_exit_here <| X_then <| Vs [(6, nt 0)] <| V_ret ?_
 exact X_return _ rfl ⟨by rw [hof, List.drop_of_length_le (by omega)]; rfl, hK0⟩
theorem of6_out (F : Nat → Prop) (x : Nat) (xs : List Acc) (cs : List Ci) (a di : Int) (w : World) (h : DLd F w x xs cs) (hia : isA a = false) : Calls Tryz.prog 128 #[pt x, nt a, nt di] w (rk_ w (nt 0)) := by
 obtain ⟨hinv, hcl, hFx, hFlt, A, cap, ds, hdx⟩ := h
 have hx := hdx.blk
 have hA := hdx.sl
 have hxlt := hx.lt
 have hacc := hdx.acc
 have hall := hdx.all
 have hAx : ∀ q, inA A q → q ≠ x := fun q hq => (hdx.own q hq).2
 have hAlt := SlT.lt hA
 have hdl := de_len hacc hinv
 have hcl1 := hcl.1
 have hF0 : ∀ q, F q → F q ∨ w.heap.size ≤ q := fun _ h => .inl h
 have hK0 := Keep.refl none_ w
 refine eV ?_
 refine Vr <| On 1 [0, 1, 2] <| Oe <| V_seq <| Vn [0, 1, 2, 7] <| V_block <| Vp [(0, pt x),(1, nt a),(2, nt di),(7, nt 0)] <| V_loop (fun k wI e => (k = 0) ∧ Keep none_ w wI ∧ e = [(0, pt x),(1, nt a),(2, nt di),(7, nt 0)]) 0 ⟨rfl, Keep.refl _ _, rfl⟩ ?_
 rintro k2 w1 _ ⟨hk9, hk3, rfl⟩
 have hsz4 := Keep.size hk3
 replace hK0 := hK0.tn hk3
 have hzhk3 := Keep.size hk3
 exact V_seq <| Vr <| On 1 [0, 1, 2, 7, 8] <| Kq (is6_spec a _) <| On 3 [0, 1, 2, 7, 10] <| Oq (u := .bool (isA a)) (v := .bool false) 10 (by rw [hia]) <| Oen [0, 1, 2, 7, 11, 12, 13, 14, 15, 16, 17, 18, 19, 20, 21, 22] <| Vf <| V_exit <| X_exit_then <| X_exit_then <| X_exit_here <| X_then <| Vn [6] <| Rr (nt 0) ⟨rfl, hK0⟩
theorem of6_spec (F : Nat → Prop) (x : Nat) (xs : List Acc) (cs : List Ci) (a di : Int) (w : World) (h : DLd F w x xs cs) : Calls Tryz.prog 128 #[pt x, nt a, nt di] w fun e w' => e = .returned (nt (ofR di (rowL a cs))) ∧ Keep none_ w w' := by
  cases hia : isA a with
  | true =>
    obtain ⟨j, rfl⟩ : ∃ j : Nat, a = j := ⟨a.toNat, by simp only [isA, decide_eq_true_eq] at hia; omega⟩
    exact of6_in F x xs cs j di w h (by simp only [isA, decide_eq_true_eq] at hia; omega)
  | false =>
    have hr : rowL a cs = [] := by
      unfold rowL
      rw [List.filter_eq_nil_iff.2]; rfl
      intro c hc hca
      have := h.okc.2.2 c hc
      rw [show c.a = a by simpa using hca, hia] at this; cases this
    rw [hr]; exact of6_out F x xs cs a di w h hia
theorem raise6_spec (F : Nat → Prop) (x : Nat) (xs : List Acc) (cs : List Ci) (a di n : Int) (w : World) (h : DLd F w x xs cs) (hmax : cs.length < 90000) : Calls Tryz.prog 106 #[pt x, nt a, nt di, nt n] w fun e w' => e = .returned (.tuple #[]) ∧ (∃ F', DLd F' w' x xs (raiseC cs a di n) ∧ (∀ q, F' q → F q ∨ w.heap.size ≤ q)) ∧ Keep F w w' := by
 have h0 := h
 have hFlt := DLd.lt h
 have hxlt := hFlt _ (DLd.at_ h)
 have hinv := DLd.inv h
 have htot1 := hinv.2.2
 have htot0 := (tot_mem hinv.2.1).1
 have hF0 : ∀ q, F q → F q ∨ w.heap.size ≤ q := fun _ h => .inl h
 have hK0 := Keep.refl F w
 refine eV ?_
 refine Vr <| On 4 [0, 1, 2, 3, 8, 9, 10, 11] <| Kk (of6_spec F x xs cs a di _ h) fun w1 hk2 _ => ?_
 replace h := DLd.keep h hk2 nk
 replace hK0 := hK0.tn hk2
 refine Ose [(0, pt x),(1, nt a),(2, nt di),(3, nt n),(13, .bool (decide (n > ofR di (rowL a cs))))] <| Vi (n > ofR di (rowL a cs)) (fun hc4 => ?_) (fun hc4 => ?_)
 ·
  refine V_region <| Os 4 [(14, pt x),(15, nt a),(16, nt di),(17, nt n)] <| Ok (kl 110 #[(.tmp 14),(.tmp 15),(.tmp 16),(.tmp 17)] #[32, 3, 3, 3]) 110 #[pt x, nt a, nt di, nt n] (some 18) (lock6_spec F x xs cs a di n _ h hmax) ?_
  rintro _ w7 ⟨rfl, ⟨F9, ho10, hfr11⟩, hk8⟩
  refine ⟨_, rfl, ?_⟩
  have hsz12 := Keep.size hk8
  replace hK0 := frr hK0 hk8 hF0
  have lt13 := DLd.lt ho10
  have rel14 : ∀ q, F9 q → F q ∨ w.heap.size ≤ q := fun q hq => by rcases hfr11 q hq with h | h; exact hF0 q h; exact .inr (by omega)
  refine OI_end rfl ?_
  exact X_end _ rfl ⟨rfl, ⟨F9, by rw [raise_of (DLd.okc h0).2.1, if_pos hc4]; exact ho10, rel14⟩, hK0⟩
 refine V_skip ?_
 exact X_end _ rfl ⟨rfl, ⟨F, by rw [raise_of (DLd.okc h0).2.1, if_neg hc4]; exact h, hF0⟩, hK0⟩
end Go.Al
namespace Go.Al
open Go Go.RowKit Go.Proofs
def castc (c : Int × Vt) : List Value := nt c.1 :: c.2.cells
theorem castc_len (c : Int × Vt) : (castc c).length = 7 := rfl
theorem castc_one (c : Int × Vt) : ∀ u ∈ castc c, u.oneCell' = true := one_all' rfl
def dst (n : Int) : Int := if n = 0 then 1 else n
def pT (x : Option PollS) : PollS := x.getD ⟨0, Tly.zero, 0, 0⟩
def pSt (x : Option PollS) : Int := match x with | none => 0 | some q => dst q.state
def dpc (x : Option PollS) : List Value := [.bool x.isSome, nt (pT x).track, nt (pSt x), nt (pT x).stop, nt (pT x).t.a, nt (pT x).t.n, nt (pT x).t.s]
theorem dpc_len (x : Option PollS) : (dpc x).length = 7 := rfl
def dTo (r : RecS) : Int := (r.d.map DelS.to).getD 0
def dLv (r : RecS) : Int := (r.d.map DelS.level).getD 0
def dN (r : RecS) : Int := (r.d.map DelS.n).getD 0
structure DR where
  A : Option Addr
  cap : Nat
  ls : List (Int × Vt)
  on : Bool
  to : Int
  level : Int
  n : Int
  gv : Int
  gc : Int
  till : Int
  pr : Int
def DR.cells (d : DR) : List Value := [.slice d.A d.ls.length d.cap, .bool d.on, nt d.to, nt d.level, nt d.n, nt d.gv, nt d.gc, nt d.till, nt d.pr]
theorem DR.len (d : DR) : d.cells.length = 9 := rfl
def DR.of (A : Option Addr) (cap : Nat) (ls : List (Int × Vt)) (r : RecS) : DR := ⟨A, cap, ls, r.d.isSome, dTo r, dLv r, dN r, r.got.v, r.got.c, r.till, r.n⟩
def rcJ (s : VS) (j : Nat) : RecS := s.rc ((j / 4 : Nat) : Int) ((j % 4 : Nat) : Int)
def vrJ (s : VS) (j : Nat) : List (Int × Vt) := vrow s ((j / 4 : Nat) : Int) ((j % 4 : Nat) : Int)
theorem rcJ_at (s : VS) (a b : Nat) (hb : b < 4) : rcJ s (a * 4 + b) = s.rc (a : Int) (b : Int) := by
  unfold rcJ
  rw [show (a * 4 + b) / 4 = a by omega, show (a * 4 + b) % 4 = b by omega]
theorem vrJ_at (s : VS) (a b : Nat) (hb : b < 4) : vrJ s (a * 4 + b) = vrow s (a : Int) (b : Int) := by
  unfold vrJ
  rw [show (a * 4 + b) / 4 = a by omega, show (a * 4 + b) % 4 = b by omega]
def RAll (F : Nat → Prop) (w : World) (y bP bR : Nat) (rs : List DR) (s : VS) : Prop := ∀ (j : Nat) (d : DR), rs[j]? = some d → d = DR.of d.A d.cap (vrJ s j) (rcJ s j) ∧ SlT w 7 castc d.A d.cap (vrJ s j) ∧ ∀ q, inA d.A q → F q ∧ q ≠ y ∧ q ≠ bP ∧ q ≠ bR
structure DvX (F : Nat → Prop) (w : World) (y bP oP cP bR oR cR : Nat) (rs : List DR) (s : VS) : Prop where
  blk : Blk w y [sl_ bP oP 12 cP, sl_ bR oR 40 cR] 77
  pl : ∃ L T, At w bP oP L T 7 cP (s.ps.map dpc)
  rl : ∃ L T, At w bR oR L T 9 cR (rs.map DR.cells)
  ne : y ≠ bP ∧ y ≠ bR ∧ bP ≠ bR
  own : F y ∧ F bP ∧ F bR
  rlen : rs.length = 40
  all : RAll F w y bP bR rs s
def StOk (s : VS) : Prop := ∀ (i : Nat) q, s.ps[i]? = some (some q) → q.state ≠ 1
structure DInv (s : VS) : Prop where
  inv : s.Inv
  trk : TrkOk s
  st : StOk s
  srt : GV.Srt s.cs
theorem DInv.len {s : VS} (h : DInv s) : s.cs.length ≤ 120 := GV.len120 h.srt (fun c hc => by obtain ⟨g1, g2, _⟩ := h.inv.votes c hc; exact ⟨g1, g2⟩)
def DVt (F : Nat → Prop) (w : World) (y : Nat) (s : VS) : Prop := DInv s ∧ (∀ q, F q → q < w.heap.size) ∧ ∃ bP oP cP bR oR cR rs, DvX F w y bP oP cP bR oR cR rs s
section
variable {F S : Nat → Prop} {w w' : World} {y bP oP cP bR oR cR j : Nat} {rs : List DR} {s s' : VS} {d : DR}
theorem DVt.lt (h : DVt F w y s) : ∀ q, F q → q < w.heap.size := h.2.1
theorem DVt.at_ (h : DVt F w y s) : F y := by
  obtain ⟨_, _, _, _, _, _, _, _, _, h⟩ := h; exact h.own.1
theorem DVt.dinv (h : DVt F w y s) : DInv s := h.1
theorem RAll.keep (h : RAll F w y bP bR rs s) (k : Keep S w w') (hS : ∀ q, F q → q ≠ y → q ≠ bP → q ≠ bR → ¬ S q) : RAll F w' y bP bR rs s := fun j d hd => by
  obtain ⟨h1, h2, h3⟩ := h j d hd
  exact ⟨h1, h2.keep k (fun q hq => hS q (h3 q hq).1 (h3 q hq).2.1 (h3 q hq).2.2.1 (h3 q hq).2.2.2), h3⟩
theorem DvX.keep (h : DvX F w y bP oP cP bR oR cR rs s) (k : Keep S w w') (hS : ∀ q, F q → ¬ S q) : DvX F w' y bP oP cP bR oR cR rs s :=
  ⟨h.blk.keep k (hS _ h.own.1),(by obtain ⟨L, T, h1⟩ := h.pl; exact ⟨L, T, h1.keep k (hS _ h.own.2.1)⟩),(by obtain ⟨L, T, h1⟩ := h.rl; exact ⟨L, T, h1.keep k (hS _ h.own.2.2)⟩), h.ne, h.own, h.rlen, h.all.keep k (fun q hq _ _ _ => hS q hq)⟩
theorem DVt.keep (h : DVt F w y s) (k : Keep S w w') (hS : ∀ q, F q → ¬ S q) : DVt F w' y s := by
  obtain ⟨h0, h1, bP, oP, cP, bR, oR, cR, rs, h2⟩ := h
  exact ⟨h0, fun q hq => Nat.lt_of_lt_of_le (h1 q hq) k.size, bP, oP, cP, bR, oR, cR, rs, h2.keep k hS⟩
theorem At.quiet9 {α : Type} {b o sz cap N : Nat} {L : List Value} {T : TypeId} {f : α → List Value} {xs : List α} (h : At w b o L T sz cap (xs.map f)) (k : Keep (lb N w) w w') : At w' b o L T sz cap (xs.map f) := ⟨h.blk.quiet k, h.le, h.room, h.cells, h.sizes⟩
theorem DVt.quiet {N : Nat} (h : DVt F w y s) (k : Keep (lb N w) w w') : DVt F w' y s := by
  obtain ⟨h0, h1, bP, oP, cP, bR, oR, cR, rs, h2⟩ := h
  exact ⟨h0, fun q hq => Nat.lt_of_lt_of_le (h1 q hq) k.size, bP, oP, cP, bR, oR, cR, rs, h2.blk.quiet k, (by obtain ⟨L, T, h3⟩ := h2.pl; exact ⟨L, T, h3.quiet9 k⟩),(by obtain ⟨L, T, h3⟩ := h2.rl; exact ⟨L, T, h3.quiet9 k⟩), h2.ne, h2.own, h2.rlen, fun j d hd => ⟨(h2.all j d hd).1, (h2.all j d hd).2.1.quiet k, (h2.all j d hd).2.2⟩⟩
theorem RAll.same (h : RAll F w y bP bR rs s) (h1 : ∀ a t, s'.rc a t = s.rc a t) (h2 : ∀ a t, vrow s' a t = vrow s a t) : RAll F w y bP bR rs s' := fun j d hd => by
  rw [show vrJ s' j = vrJ s j from h2 _ _, show rcJ s' j = rcJ s j from h1 _ _]
  exact h j d hd
theorem RAll.set {F' : Nat → Prop} (h : RAll F w y bP bR rs s) (hF : ∀ q, F q → F' q) (A : Option Addr) (cap : Nat) (hsl : SlT w 7 castc A cap (vrJ s' j)) (hown : ∀ q, inA A q → F' q ∧ q ≠ y ∧ q ≠ bP ∧ q ≠ bR) (hoth : ∀ i, i ≠ j → i < rs.length → vrJ s' i = vrJ s i ∧ rcJ s' i = rcJ s i) {e : DR} (he : e = DR.of A cap (vrJ s' j) (rcJ s' j)) : RAll F' w y bP bR (rs.set j e) s' := fun i d hd => by
  by_cases hij : i = j
  · subst hij
    by_cases hl : i < rs.length
    · rw [List.getElem?_set_self hl] at hd
      simp only [Option.some.injEq] at hd
      subst hd he
      exact ⟨rfl, hsl, hown⟩
    · rw [List.getElem?_eq_none (by rw [List.length_set]; omega)] at hd; cases hd
  · rw [List.getElem?_set_ne (Ne.symm hij)] at hd
    obtain ⟨e1, e2⟩ := hoth i hij (List.getElem?_eq_some_iff.1 hd).1
    rw [e1, e2]
    obtain ⟨h1, h2, h3⟩ := h i d hd
    exact ⟨h1, h2, fun q hq => ⟨hF q (h3 q hq).1, (h3 q hq).2⟩⟩
theorem pollAt_some {ref : Int} {q : PollS} (h : pollAt s ref = some q) : ∃ i : Nat, ref = i ∧ i < 12 ∧ s.ps[i]? = some (some q) := by
  unfold pollAt at h
  split at h
  · rename_i hr
    obtain ⟨i, rfl⟩ : ∃ i : Nat, ref = i := ⟨ref.toNat, by omega⟩
    refine ⟨i, rfl, by omega, ?_⟩
    rw [Int.toNat_natCast] at h
    cases hx : s.ps[i]? with
    | none => rw [hx] at h; cases h
    | some x => rw [hx] at h; simpa using h
  · cases h
theorem pollAt_in {i : Nat} {x : Option PollS} (h : s.ps[i]? = some x) (hi : i < 12) : pollAt s (i : Int) = x := by
  unfold pollAt
  rw [if_pos (by omega), Int.toNat_natCast, h]; rfl
theorem pollAt_out {ref : Int} (h : ¬ (0 ≤ ref ∧ ref < 12)) : pollAt s ref = none := if_neg h
theorem dst_open {n : Int} (h : n ≠ 1) : (dst n = 1) = (n = 0) := by
  unfold dst
  by_cases h0 : n = 0
  · simp [h0]
  · simp [h0, h]
end
theorem RAll.get {F : Nat → Prop} {w : World} {y bP bR j : Nat} {rs : List DR} {s : VS} {d : DR} (h : RAll F w y bP bR rs s) (hd : rs[j]? = some d) : ∃ A c, d = DR.of A c (vrJ s j) (rcJ s j) ∧ SlT w 7 castc A c (vrJ s j) ∧ ∀ q, inA A q → F q ∧ q ≠ y ∧ q ≠ bP ∧ q ≠ bR := ⟨d.A, d.cap, h j d hd⟩
theorem dtrack_spec (t : Int) (w : World) : Calls Tryz.prog 100 #[nt t] w fun e w' => e = .returned (.bool (decide (0 ≤ t ∧ t < 4))) ∧ w' = w := by
 refine eV ?_
 refine Vr <| On 1 [0] <| Oer <| On 3 [0, 5] ?_
 by_cases hg1 : t ≥ 0
 ·
  exact Dt 5 hg1 <| Oen [2] <| Rr (.bool (decide (t < 4))) ⟨by congr 2; by_cases h1 : 0 ≤ t <;> simp [h1] <;> omega, rfl⟩
 exact Df 5 hg1 <| Oen [2] <| Rr (.bool false) ⟨by congr 2; by_cases h1 : 0 ≤ t <;> simp [h1] <;> omega, rfl⟩
theorem dat_spec (y bR oR cR a b : Nat) (v0 : Value) (w : World) (hy : Blk w y [v0, sl_ bR oR 40 cR] 77) (ha : a < 10) (hb : b < 4) : Calls Tryz.prog 103 #[pt y, nt (a : Int), nt (b : Int)] w fun e w' => e = .returned (.pointer (some ⟨bR, oR + (a * 4 + b) * 9, none⟩)) ∧ w' = w := by
 have hylt := hy.lt
 refine eV ?_
 refine Vr <| On 1 [0, 1, 2] <| Oer <| On 3 [1, 2, 9] <| Lr 1 (sl_ bR oR 40 cR) hy ?_
 have hw1 : i64.wrap ((a : Int) * 4) = ((a * 4 : Nat) : Int) := wrp
 refine On 6 [2, 10, 12] <| Oq (u := nt (i64.wrap ((a : Int) * 4))) (v := nt ((a * 4 : Nat) : Int)) 12 (by rw [hw1]) ?_
 have hw2 : i64.wrap (((a * 4 : Nat) : Int) + (b : Int)) = ((a * 4 + b : Nat) : Int) := wrp
 refine On 8 [10, 14] <| Oq (u := nt (i64.wrap (((a * 4 : Nat) : Int) + (b : Int)))) (v := nt ((a * 4 + b : Nat) : Int)) 14 (by rw [hw2]) <| Oi (b := bR) (o := oR) (len := 40) (cap := cR) (j := a * 4 + b) (some 15) 75 (.tmp 10) (.tmp 14) 167 9 88 .i64 <| Ose [(6, .pointer (some ⟨bR, oR + (a * 4 + b) * 9, none⟩))] <| V_ret ?_
 exact X_return _ rfl ⟨rfl, rfl⟩
theorem dopen_spec (y bP oP cP : Nat) (LP : List Value) (TP : TypeId) (s : VS) (i : Nat) (q : PollS) (v1 : Value) (w : World) (hy : Blk w y [sl_ bP oP 12 cP, v1] 77) (hP : At w bP oP LP TP 7 cP (s.ps.map dpc)) (hq : s.ps[i]? = some (some q)) (hst : q.state ≠ 1) (hpl : s.ps.length = 12) : Calls Tryz.prog 101 #[pt y, nt (i : Int)] w fun e w' => e = .returned (.bool (decide (q.state = 0))) ∧ Keep none_ w w' := by
 have hylt := hy.lt
 have hbPlt := hP.blk.lt
 have hil := (List.getElem?_eq_some_iff.1 hq).1
 have hK0 := Keep.refl none_ w
 refine eV ?_
 exact Vr <| On 1 [0, 1] <| Oer <| On 3 [1, 7] <| Lr 0 (sl_ bP oP 12 cP) hy <| On 5 [8, 9] <| Oi (b := bP) (o := oP) (len := 12) (cap := cP) (j := i) (some 10) 74 (.tmp 8) (.tmp 9) 73 7 56 .i64 <| On 7 [11] <| Lc (oP + i * 7 + 2) (nt (dst q.state)) hP.blk (At.cell hP (es_at hq) rfl) <| Oen [4] <| Rr (.bool (decide (dst q.state = 1))) ⟨by simp only [dst_open hst], hK0⟩
theorem dhas_spec (F : Nat → Prop) (y : Nat) (s : VS) (ref : Int) (w : World) (h : DVt F w y s) : Calls Tryz.prog 36 #[pt y, nt ref] w fun e w' => e = .returned (.bool (pollAt s ref).isSome) ∧ Keep none_ w w' := by
 obtain ⟨hdi, hFlt, bP, oP, cP, bR, oR, cR, rs, hdv⟩ := h
 obtain ⟨LP, TP, hP⟩ := hdv.pl
 obtain ⟨LR, TR, hR⟩ := hdv.rl
 have hy := hdv.blk
 obtain ⟨hyP, hyR, hPR⟩ := hdv.ne
 have hylt := hy.lt
 have hbPlt := hP.blk.lt
 have hbRlt := hR.blk.lt
 have hpl : s.ps.length = 12 := hdi.inv.len
 have hrl := hdv.rlen
 have hra := hdv.all
 have hF0 : ∀ q, F q → F q ∨ w.heap.size ≤ q := fun _ h => .inl h
 have hK0 := Keep.refl none_ w
 refine eV ?_
 refine Vr <| On 1 [0, 1] <| Oer <| On 3 [0, 1, 7] ?_
 by_cases hg1 : ref ≥ 0
 ·
  refine Dt 7 hg1 <| On 7 [0, 1, 11] ?_
  by_cases hg2 : ref < 12
  ·
   obtain ⟨j3, hj3, hjl3⟩ : ∃ j : Nat, ref = j ∧ j < 12 := ⟨(ref).toNat, by omega, by omega⟩
   refine Dt 11 hg2 <| On 10 [1, 11, 14] <| Lr 0 (sl_ bP oP 12 cP) hy <| On 12 [11, 15, 16] <| Op_ [(11, .bool true),(15, sl_ bP oP 12 cP),(16, nt ref)] <| Oq (u := nt ref) (v := nt (j3 : Int)) 16 (by rw [hj3]) <| Oi (b := bP) (o := oP) (len := 12) (cap := cP) (j := j3) (some 17) 74 (.tmp 15) (.tmp 16) 73 7 56 .i64 <| On 14 [11, 18] ?_
   obtain ⟨x4, hx5⟩ := exAt (xs := s.ps) (i := j3)
   exact Lc (oP + j3 * 7) (.bool x4.isSome) hP.blk (At.cell0 hP (es_at hx5) rfl) <| Oen [4] <| Rr (.bool x4.isSome) ⟨by rw [hj3, pollAt_in hx5 (by omega)], hK0⟩
  exact Df 11 hg2 <| Oen [4] <| Rr (.bool false) ⟨by rw [pollAt_out (by omega)]; rfl, hK0⟩
 exact Df 7 hg1 <| Oen [4] <| Rr (.bool false) ⟨by rw [pollAt_out (by omega)]; rfl, hK0⟩
end Go.Al
namespace Go.Al
open Go Go.RowKit Go.Proofs
variable {cs : List Ci} {i : Nat} {l : List (Int × Vt)} {ref : Int}
namespace GV
def insR (id : Int) (n : Vt) : List (Int × Vt) → List (Int × Vt)
  | [] => [(id, n)]
  | q :: l => if q.1 = id then (id, n) :: l else if q.1 < id then q :: insR id n l else (id, n) :: q :: l
theorem rowL_cons (n : Int) (x : Ci) (l : List Ci) : rowL n (x :: l) = if x.a = n then (x.b, x.v) :: rowL n l else rowL n l := by
  unfold rowL
  by_cases h : x.a = n
  · rw [if_pos h, List.filter_cons_of_pos (by simpa using h)]; rfl
  · rw [if_neg h, List.filter_cons_of_neg (by simpa using h)]
theorem row_mem {n : Int} {q : Int × Vt} {l : List Ci} (h : q ∈ rowL n l) : ∃ c ∈ l, c.a = n ∧ c.b = q.1 := by
  obtain ⟨c, hc, rfl⟩ := List.mem_map.1 h
  have := List.mem_filter.1 hc
  exact ⟨c, this.1, by simpa using this.2, rfl⟩
theorem row_gt {a id : Int} {l : List Ci} (h : ∀ y ∈ l, ltC a id y.a y.b) : ∀ q ∈ rowL a l, id < q.1 := fun q hq => by
  obtain ⟨c, hc, h1, h2⟩ := row_mem hq
  have := h c hc
  unfold ltC at this; omega
theorem row_srt (hs : Srt cs) (a : Int) : (rowL a cs).Pairwise fun x y => x.1 < y.1 := by
  induction cs with
  | nil => exact List.Pairwise.nil
  | cons x l ih =>
    obtain ⟨h1, h2⟩ := List.pairwise_cons.1 hs
    rw [rowL_cons]
    split
    · rename_i hx; subst hx
      exact List.pairwise_cons.2 ⟨row_gt h1, ih h2⟩
    · exact ih h2
theorem insR_front {id : Int} {n : Vt} : ∀ {l : List (Int × Vt)}, (∀ q ∈ l, id < q.1) → insR id n l = (id, n) :: l
  | [], _ => rfl
  | q :: l, h => by
    have := h q (List.mem_cons_self ..)
    rw [insR, if_neg (by omega), if_neg (by omega)]
theorem fil_all {id : Int} (h : ∀ q ∈ l, id < q.1) : (l.filter fun q => decide (q.1 ≠ id)) = l := List.filter_eq_self.2 fun q hq => by have := h q hq; simp; omega
theorem row_set (hs : Srt cs) (a id : Int) (n : Vt) : rowL a (setC a id n cs) = insR id n (rowL a cs) := by
  induction cs with
  | nil => simp [setC, rowL, insR]
  | cons x l ih =>
    obtain ⟨h1, h2⟩ := List.pairwise_cons.1 hs
    rw [setC]
    split
    · rename_i hx
      rw [rowL_cons, rowL_cons, if_pos rfl, if_pos hx.1, insR, if_pos hx.2]
    · rename_i hx
      split
      · rename_i hlt
        rw [rowL_cons, rowL_cons, ih h2]
        by_cases hxa : x.a = a
        · rw [if_pos hxa, if_pos hxa, insR, if_neg (fun h => hx ⟨hxa, h⟩), if_pos (by unfold ltC at hlt; show x.b < id; omega)]
        · rw [if_neg hxa, if_neg hxa]
      · rename_i hlt
        have hgt : ltC a id x.a x.b := by unfold ltC at *; omega
        rw [rowL_cons, if_pos rfl, insR_front (row_gt fun y hy => by
          rcases List.mem_cons.1 hy with rfl | hy
          · exact hgt
          · exact ltC_trans hgt (h1 y hy))]
theorem row_del (hs : Srt cs) (a id : Int) : rowL a (delC a id cs) = (rowL a cs).filter fun q => decide (q.1 ≠ id) := by
  induction cs with
  | nil => rfl
  | cons x l ih =>
    obtain ⟨h1, h2⟩ := List.pairwise_cons.1 hs
    rw [delC]
    split
    · rename_i hx
      obtain ⟨hx1, hx2⟩ := hx
      subst hx1 hx2
      rw [rowL_cons, if_pos rfl, List.filter_cons_of_neg (by simp), fil_all (row_gt h1)]
    · rename_i hx
      rw [rowL_cons, rowL_cons, ih h2]
      by_cases hxa : x.a = a
      · rw [if_pos hxa, if_pos hxa, List.filter_cons_of_pos (by simp; exact fun h => hx ⟨hxa, h⟩)]
      · rw [if_neg hxa, if_neg hxa]
theorem row_other {a b id : Int} {n : Vt} (hab : b ≠ a) : ∀ (cs : List Ci), rowL b (setC a id n cs) = rowL b cs ∧ rowL b (delC a id cs) = rowL b cs
  | [] => ⟨by rw [setC, rowL_cons, if_neg (fun h => hab h.symm)], rfl⟩
  | x :: l => by
    obtain ⟨h1, h2⟩ := row_other (id := id) (n := n) hab l
    constructor
    · rw [setC]
      split
      · rename_i hx; rw [rowL_cons, rowL_cons, if_neg (fun h => hab h.symm), if_neg (fun h => hab (h.symm.trans hx.1))]
      · split
        · rw [rowL_cons, rowL_cons, h1]
        · rw [rowL_cons, if_neg (fun h => hab h.symm)]
    · rw [delC]
      split
      · rename_i hx; rw [rowL_cons, if_neg (fun h => hab (h.symm.trans hx.1))]
      · rw [rowL_cons, rowL_cons, h2]
theorem insR_fil {f : Int × Vt → Bool} (hf : ∀ k x y, f (k, x) = f (k, y)) (id : Int) (n : Vt) : ∀ (l : List (Int × Vt)),(l.Pairwise fun x y => x.1 < y.1) → (insR id n l).filter f = if f (id, n) = true then insR id n (l.filter f) else l.filter f
  | [], _ => by
    simp only [insR, List.filter_nil]
    by_cases h : f (id, n) = true
    · rw [if_pos h, List.filter_cons_of_pos h]; rfl
    · rw [if_neg h, List.filter_cons_of_neg h]; rfl
  | q :: l, h => by
    obtain ⟨h1, h2⟩ := List.pairwise_cons.1 h
    have ih := insR_fil hf id n l h2
    have hfr : ∀ m : List (Int × Vt),(∀ x ∈ m, x ∈ q :: l) → id < q.1 → insR id n (m.filter f) = (id, n) :: m.filter f := fun m hm hq => insR_front fun x hx => by
      rcases List.mem_cons.1 (hm x (List.mem_filter.1 hx).1) with rfl | hx
      · exact hq
      · exact Int.lt_trans hq (h1 x hx)
    rw [insR]
    by_cases e1 : q.1 = id
    · rw [if_pos e1]
      have hq : f q = f (id, n) := by rw [← e1]; exact hf q.1 q.2 n
      by_cases hb : f (id, n) = true
      · rw [List.filter_cons_of_pos hb, if_pos hb, List.filter_cons_of_pos (hq.trans hb), insR, if_pos e1]
      · rw [List.filter_cons_of_neg hb, if_neg hb, List.filter_cons_of_neg (by rw [hq]; exact hb)]
    · rw [if_neg e1]
      by_cases e2 : q.1 < id
      · rw [if_pos e2]
        by_cases hq : f q = true
        · rw [List.filter_cons_of_pos hq, ih, List.filter_cons_of_pos hq]
          split
          · rw [insR, if_neg e1, if_pos e2]
          · rfl
        · rw [List.filter_cons_of_neg hq, ih, List.filter_cons_of_neg hq]
      · rw [if_neg e2]
        by_cases hb : f (id, n) = true
        · rw [List.filter_cons_of_pos hb, if_pos hb, hfr (q :: l) (fun _ h => h) (by omega)]
        · rw [List.filter_cons_of_neg hb, if_neg hb]
def plc (ref : Int) : List (Int × Vt) → Nat
  | [] => 0
  | c :: l => if c.1 < ref then plc ref l + 1 else 0
def isP (ref : Int) : List (Int × Vt) → Bool
  | [] => false
  | c :: l => if c.1 < ref then isP ref l else decide (c.1 = ref)
theorem plc_le (ref : Int) : ∀ l, plc ref l ≤ l.length
  | [] => Nat.le_refl _
  | c :: l => by
    have := plc_le ref l
    rw [plc, List.length_cons]
    split <;> omega
theorem plc_yes {c : Int × Vt} (h : l[i]? = some c) (hc : c.1 < ref) : plc ref (l.drop i) = plc ref (l.drop (i + 1)) + 1 ∧ isP ref (l.drop i) = isP ref (l.drop (i + 1)) := by
  obtain ⟨g, rfl⟩ := List.getElem?_eq_some_iff.1 h
  rw [List.drop_eq_getElem_cons g, plc, isP, if_pos hc, if_pos hc]; exact ⟨rfl, rfl⟩
theorem plc_no {c : Int × Vt} (h : l[i]? = some c) (hc : ¬ c.1 < ref) : plc ref (l.drop i) = 0 ∧ isP ref (l.drop i) = decide (c.1 = ref) := by
  obtain ⟨g, rfl⟩ := List.getElem?_eq_some_iff.1 h
  rw [List.drop_eq_getElem_cons g, plc, isP, if_neg hc, if_neg hc]; exact ⟨rfl, rfl⟩
theorem plc_end (h : ¬ i < l.length) : plc ref (l.drop i) = 0 ∧ isP ref (l.drop i) = false := by
  rw [List.drop_of_length_le (by omega)]; exact ⟨rfl, rfl⟩
theorem isP_lt {ref : Int} : ∀ {l : List (Int × Vt)}, isP ref l = true → plc ref l < l.length
  | [], h => by cases h
  | c :: l, h => by
    rw [isP] at h
    rw [plc, List.length_cons]
    split
    · rename_i hc; rw [if_pos hc] at h; have := isP_lt h; omega
    · omega
theorem insR_plc (id : Int) (n : Vt) : ∀ l : List (Int × Vt), insR id n l = l.take (plc id l) ++ (id, n) :: l.drop (if isP id l = true then plc id l + 1 else plc id l)
  | [] => rfl
  | c :: l => by
    have ih := insR_plc id n l
    rw [insR, plc, isP]
    by_cases e1 : c.1 = id
    · have e2 : ¬ c.1 < id := by omega
      simp only [if_pos e1, if_neg e2, decide_eq_true e1, eq_self, if_true]; rfl
    · rw [if_neg e1]
      by_cases e2 : c.1 < id
      · simp only [if_pos e2]; rw [ih]
        split <;> rfl
      · simp only [if_neg e2, decide_eq_false e1]; rfl
theorem fil_plc {id : Int} : ∀ {l : List (Int × Vt)}, (l.Pairwise fun x y => x.1 < y.1) → isP id l = true → (l.filter fun q => decide (q.1 ≠ id)) = l.take (plc id l) ++ l.drop (plc id l + 1)
  | [], _, h => by cases h
  | c :: l, hs, h => by
    obtain ⟨h1, h2⟩ := List.pairwise_cons.1 hs
    rw [isP] at h
    rw [plc]
    by_cases e2 : c.1 < id
    · rw [if_pos e2] at h ⊢
      rw [List.filter_cons_of_pos (by simp; omega), fil_plc h2 h]; rfl
    · rw [if_neg e2] at h ⊢
      have e1 : c.1 = id := of_decide_eq_true h
      rw [List.filter_cons_of_neg (by simp [e1]), fil_all (fun q hq => by have := h1 q hq; omega)]; rfl
theorem isP_mem {ref : Int} : ∀ {l : List (Int × Vt)}, (l.Pairwise fun x y => x.1 < y.1) → (∀ v, (ref, v) ∈ l → isP ref l = true ∧ l[plc ref l]? = some (ref, v)) ∧ (isP ref l = true → ∃ v, (ref, v) ∈ l)
  | [], _ => ⟨fun _ h => by (cases h), fun h => by (cases h)⟩
  | c :: l, hs => by
    obtain ⟨h1, h2⟩ := List.pairwise_cons.1 hs
    obtain ⟨i1, i2⟩ := isP_mem (ref := ref) h2
    refine ⟨fun v hv => ?_, fun h => ?_⟩
    · rw [isP, plc]
      rcases List.mem_cons.1 hv with rfl | hv
      · rw [if_neg (by show ¬ ref < ref; omega), if_neg (by show ¬ ref < ref; omega)]; exact ⟨by simp, rfl⟩
      · have hlt : c.1 < ref := h1 _ hv
        rw [if_pos hlt, if_pos hlt, List.getElem?_cons_succ]; exact i1 v hv
    · rw [isP] at h
      by_cases hd : c.1 < ref
      · rw [if_pos hd] at h; obtain ⟨v, hv⟩ := i2 h; exact ⟨v, List.mem_cons_of_mem _ hv⟩
      · rw [if_neg hd] at h; have := of_decide_eq_true h; exact ⟨c.2, by rw [← this]; exact List.mem_cons_self ..⟩
theorem get_row (a b : Int) : ∀ {cs : List Ci}, Srt cs → ∀ v, getC a b cs = some v ↔ (b, v) ∈ rowL a cs
  | [], _, v => by simp [getC, rowL]
  | x :: l, hs, v => by
    obtain ⟨h1, h2⟩ := List.pairwise_cons.1 hs
    have ih := get_row a b h2 v
    rw [rowL_cons, getC]
    by_cases ha : x.a = a
    · rw [if_pos ha]
      by_cases hb : x.b = b
      · rw [if_pos ⟨ha, hb⟩]
        constructor
        · intro h; simp only [Option.some.injEq] at h; rw [← h, ← hb]; exact List.mem_cons_self ..
        · intro h
          rcases List.mem_cons.1 h with h | h
          · rw [Prod.mk.injEq] at h; rw [h.2]
          · obtain ⟨c, hc, e1, e2⟩ := row_mem h
            have := h1 c hc
            unfold ltC at this; simp only at e2; omega
      · rw [if_neg (fun h => hb h.2), ih]
        constructor
        · exact List.mem_cons_of_mem _
        · intro h
          rcases List.mem_cons.1 h with h | h
          · rw [Prod.mk.injEq] at h; exact absurd h.1.symm hb
          · exact h
    · rw [if_neg ha, if_neg (fun h => ha h.1)]; exact ih
end GV
section
variable {s : VS} {who ref : Int} {q : PollS} {x : Vt}
theorem trk_at (h : pollAt s ref = some q) : trk s ref = q.track := by
  obtain ⟨i, rfl, _, hi⟩ := pollAt_some h
  unfold trk; rw [Int.toNat_natCast, hi]
theorem vrow_srt (hs : GV.Srt s.cs) (a t : Int) : (vrow s a t).Pairwise fun x y => x.1 < y.1 := List.Pairwise.filter _ (GV.row_srt hs a)
theorem vrow_get (hs : GV.Srt s.cs) (hq : pollAt s ref = some q) (who : Int) : GV.isP ref (vrow s who q.track) = (GV.getC who ref s.cs).isSome ∧ (∀ v, GV.getC who ref s.cs = some v → (vrow s who q.track)[GV.plc ref (vrow s who q.track)]? = some (ref, v)) := by
  obtain ⟨h1, h2⟩ := GV.isP_mem (ref := ref) (vrow_srt hs who q.track)
  have hm : ∀ v, (ref, v) ∈ vrow s who q.track ↔ GV.getC who ref s.cs = some v := fun v => by
    rw [GV.get_row who ref hs v]; unfold vrow
    rw [List.mem_filter]
    exact ⟨fun h => h.1, fun h => ⟨h, by show (trk s ref == q.track) = true; rw [trk_at hq]; simp⟩⟩
  refine ⟨?_, fun v hv => (h1 v ((hm v).2 hv)).2⟩
  cases hg : GV.getC who ref s.cs with
  | none =>
    cases hp : GV.isP ref (vrow s who q.track) with
    | false => rfl
    | true => obtain ⟨v, hv⟩ := h2 hp; rw [(hm v).1 hv] at hg; cases hg
  | some v => exact (h1 v ((hm v).2 hg)).1
theorem vrow_set (hs : GV.Srt s.cs) (who ref : Int) (x : Vt) (a t : Int) : vrow { s with cs := GV.setC who ref x s.cs } a t = if a = who ∧ trk s ref = t then GV.insR ref x (vrow s a t) else vrow s a t := by
  unfold vrow
  show (GV.rowL a (GV.setC who ref x s.cs)).filter (fun p => trk s p.1 == t) = _
  by_cases ha : a = who
  · subst ha
    rw [GV.row_set hs, GV.insR_fil (fun _ _ _ => rfl) _ _ _ (GV.row_srt hs _)]
    by_cases ht : trk s ref = t
    · rw [if_pos (by simpa using ht), if_pos ⟨rfl, ht⟩]
    · rw [if_neg (by simpa using ht), if_neg (fun h => ht h.2)]
  · rw [(GV.row_other (id := ref) (n := x) ha s.cs).1, if_neg (fun h => ha h.1)]
theorem vrow_del (hs : GV.Srt s.cs) (who ref : Int) (a t : Int) : vrow { s with cs := GV.delC who ref s.cs } a t = if a = who ∧ trk s ref = t then (vrow s a t).filter (fun q => decide (q.1 ≠ ref)) else vrow s a t := by
  unfold vrow
  show (GV.rowL a (GV.delC who ref s.cs)).filter (fun p => trk s p.1 == t) = _
  by_cases ha : a = who
  · subst ha
    rw [GV.row_del hs, List.filter_filter]
    by_cases ht : trk s ref = t
    · rw [if_pos ⟨rfl, ht⟩, List.filter_filter]; congr 1; funext p; exact Bool.and_comm _ _
    · rw [if_neg (fun h => ht h.2)]
      refine List.filter_congr fun p hp => ?_
      by_cases e : p.1 = ref
      · have : (trk s p.1 == t) = false := by rw [e]; simpa using ht
        rw [this]; rfl
      · simp [e]
  · rw [(GV.row_other (id := ref) (n := Vt.zero) ha s.cs).2, if_neg (fun h => ha h.1)]
end
end Go.Al
namespace Go.Al
open Go Go.RowKit Go.Proofs
theorem dplace_spec (bR oR cR j : Nat) (LR : List Value) (TR : TypeId) (rs : List DR) (A : Option Addr) (c : Nat) (l : List (Int × Vt)) (r : RecS) (ref : Int) (w : World) (hR : At w bR oR LR TR 9 cR (rs.map DR.cells)) (hd : rs[j]? = some (DR.of A c l r)) (hsl : SlT w 7 castc A c l) (hn : l.length ≤ 1000) : Calls Tryz.prog 104 #[.pointer (some ⟨bR, oR + j * 9, none⟩), nt ref] w fun e w' => e = .returned (.tuple #[nt ((GV.plc ref l : Nat) : Int), .bool (GV.isP ref l)]) ∧ Keep none_ w w' := by
 have hbRlt := hR.blk.lt
 have hjl := (List.getElem?_eq_some_iff.1 hd).1
 have hK0 := Keep.refl none_ w
 refine eV ?_
 refine Vr <| On 2 [0, 1] <| Oer <| Oen [0, 1, 6] <| V_seq <| V_block <| Vp [(0, .pointer (some ⟨bR, oR + j * 9, none⟩)),(1, nt ref),(6, nt 0)] <| V_loop (fun k wI e => ∃ i : Nat, (k + i = l.length) ∧ (GV.plc ref l = i + GV.plc ref (l.drop i)) ∧ (GV.isP ref l = GV.isP ref (l.drop i)) ∧ Keep none_ w wI ∧ e = [(0, .pointer (some ⟨bR, oR + j * 9, none⟩)),(1, nt ref),(6, nt (i : Int))]) l.length ⟨0, by omega, by rw [List.drop_zero]; omega, by rw [List.drop_zero], Keep.refl _ _, rfl⟩ ?_
 rintro k2 w1 _ ⟨i, hki, hpl0, hip, hk3, rfl⟩
 have hsz4 := Keep.size hk3
 replace hR := hR.k0 hk3
 replace hsl := hsl.keep0 hk3
 replace hK0 := hK0.tn hk3
 have hzhk3 := Keep.size hk3
 refine V_seq <| Vr <| On 4 [0, 1, 6, 7, 10] <| Lc (oR + j * 9) (.slice A l.length c) hR.blk (At.cell0 hR (es_at hd) rfl) <| On 8 [0, 1, 6, 14] ?_
 by_cases hg5 : (i : Int) < (l.length : Int)
 ·
  refine Dt 14 hg5 <| On 11 [0, 1, 6, 14, 15, 16, 17] <| Lc (oR + j * 9) (.slice A l.length c) hR.blk (At.cell0 hR (es_at hd) rfl) <| On 13 [0, 1, 6, 14, 15, 16, 17, 18, 19] ?_
  obtain ⟨b6, o6, L6, T6, rfl, hat6⟩ := SlT.opn hsl
  have hb6lt := hat6.blk.lt
  refine Oi (b := b6) (o := o6) (len := l.length) (cap := c) (j := i) (some 20) 39 (.tmp 18) (.tmp 19) 46 7 56 .i64 <| On 15 [0, 1, 6, 14, 15, 16, 17, 18, 19, 20, 21] ?_
  obtain ⟨x7, hx8⟩ := exAt (xs := l) (i := i)
  refine Lc (o6 + i * 7) (nt x7.1) hat6.blk (At.cell0 hat6 (es_at hx8) rfl) <| Oen [0, 1, 6, 15, 16, 17, 18, 19, 20, 21, 22, 23, 24, 25] <| Vi (x7.1 < ref) (fun hc9 => ?_) (fun hc9 => ?_)
  ·
   refine Vsk <| V_block <| V_region ?_
   have hw10 : i64.wrap ((i : Int) + 1) = ((i + 1 : Nat) : Int) := wrp
   refine On 2 [0, 1, 15, 16, 17, 18, 19, 20, 21, 22, 23, 24, 27] <| Oq (u := nt (i64.wrap ((i : Int) + 1))) (v := nt ((i + 1 : Nat) : Int)) 27 (by rw [hw10]) <| Os 3 [(0, .pointer (some ⟨bR, oR + j * 9, none⟩)),(1, nt ref),(6, nt ((i + 1 : Nat) : Int)),(15, .pointer (some ⟨bR, oR + j * 9, none⟩)),(16, .pointer (some ⟨bR, oR + j * 9, none⟩)),(17, .pointer (some ⟨bR, oR + j * 9, none⟩)),(18, sl_ b6 o6 l.length c),(19, nt (i : Int)),(20, .pointer (some ⟨b6, o6 + i * 7, none⟩)),(21, .pointer (some ⟨b6, o6 + i * 7, none⟩)),(22, nt x7.1),(23, nt ref),(24, .bool (decide (x7.1 < ref)))] <| OI_end rfl <| X_block ?_
   exact V_again (k2 - 1) (by omega) [(0, .pointer (some ⟨bR, oR + j * 9, none⟩)),(1, nt ref),(6, nt ((i + 1 : Nat) : Int))] rfl ⟨i + 1, by omega, by rw [hpl0, (GV.plc_yes hx8 hc9).1]; omega, hip.trans (GV.plc_yes hx8 hc9).2, hk3, rfl⟩
  refine V_exit <| X_exit_then <| X_exit_then <| X_exit_here <| X_then <| V_seq <| Vd1 (acts []) none_ [0, 1, 2, 3, 4, 5, 6, 7, 8, 9, 10, 11, 12, 13, 14, 15, 16, 17, 18, 19, 20, 21] fun w12 hk11 he13 K16 _ => ?_
  replace hR := hR.k0 hk11
  replace hat6 := hat6.keep hk11 id
  replace hK0 := hK0.tn hk11
  have qhR := hR
  have qhat6 := hat6
  refine Gn [5, 6, 7, 8, 9, 10, 11, 12, 13, 14, 15, 16, 17, 18, 19, 20, 21] [0, 1, 6, 28, 29, 32] <| Mc0 (oR + j * 9) (sl_ b6 o6 l.length c) qhR.blk (At.cell0 qhR (es_at hd) rfl) <| Gs [9, 10, 11, 12, 13, 14, 15, 16, 17, 18, 19, 20, 21] [(0, .pointer (some ⟨bR, oR + j * 9, none⟩)),(1, nt ref),(6, nt (i : Int)),(28, nt (i : Int)),(36, .bool (decide ((i : Int) < (l.length : Int))))] ?_
  by_cases hg17 : (i : Int) < (l.length : Int)
  ·
   exact Et 36 hg17 <| Gn [12, 13, 14, 15, 16, 17, 18, 19, 20, 21] [1, 6, 28, 36, 39] <| Mc0 (oR + j * 9) (sl_ b6 o6 l.length c) qhR.blk (At.cell0 qhR (es_at hd) rfl) <| Gn [14, 15, 16, 17, 18, 19, 20, 21] [1, 28, 36, 40, 41] <| Gi (b := b6) (o := o6) (len := l.length) (cap := c) (j := i) 46 7 56 .i64 <| Gn [16, 17, 18, 19, 20, 21] [1, 28, 36, 43] <| Mc0 (o6 + i * 7) (nt x7.1) qhat6.blk (At.cell0 qhat6 (es_at hx8) rfl) <| Gn [] [4, 5] <| GI_end <| X_then <| Rr (.tuple #[nt (i : Int), .bool (decide (x7.1 = ref))]) ⟨by rw [hpl0, hip, (GV.plc_no hx8 hc9).1, (GV.plc_no hx8 hc9).2]; rfl, hK0⟩
  exact absurd hg5 hg17
 refine Df 14 hg5 <| Oen [0, 1, 6, 15, 16, 17, 18, 19, 20, 21, 22, 23, 24, 25] <| Vf <| V_exit <| X_exit_then <| X_exit_then <| X_exit_here <| X_then <| V_seq <| Vd1 (acts []) none_ [0, 1, 2, 3, 4, 5, 6, 7, 8, 9, 10, 11, 12, 13, 14, 15, 16, 17, 18, 19, 20, 21] fun w19 hk18 he20 K23 _ => ?_
 replace hR := hR.k0 hk18
 replace hK0 := hK0.tn hk18
 have qhR := hR
 refine Gn [5, 6, 7, 8, 9, 10, 11, 12, 13, 14, 15, 16, 17, 18, 19, 20, 21] [0, 1, 6, 28, 29, 32] <| Mc0 (oR + j * 9) (.slice A l.length c) qhR.blk (At.cell0 qhR (es_at hd) rfl) <| Gs [9, 10, 11, 12, 13, 14, 15, 16, 17, 18, 19, 20, 21] [(0, .pointer (some ⟨bR, oR + j * 9, none⟩)),(1, nt ref),(6, nt (i : Int)),(28, nt (i : Int)),(36, .bool (decide ((i : Int) < (l.length : Int))))] ?_
 by_cases hg24 : (i : Int) < (l.length : Int)
 ·
  exact absurd hg24 hg5
 exact Ef 36 hg24 <| Gn [] [4, 5] <| GI_end <| X_then <| Rr (.tuple #[nt (i : Int), .bool false]) ⟨by rw [hpl0, hip, (GV.plc_end (by omega)).1, (GV.plc_end (by omega)).2]; rfl, hK0⟩
end Go.Al
namespace Go.Al
open Go Go.RowKit Go.Proofs
theorem rIn_spec (n lo hi : Int) (w : World) : Calls Tryz.prog 40 #[nt n, nt lo, nt hi] w fun e w' => e = .returned (.bool (decide (lo ≤ n ∧ n ≤ hi))) ∧ w' = w := by
 refine eV ?_
 refine Vr <| On 1 [0, 1, 2] <| Oer <| On 4 [0, 2, 10] ?_
 by_cases hg1 : n ≥ lo
 ·
  exact Dt 10 hg1 <| Oen [6] <| Rr (.bool (decide (n ≤ hi))) ⟨by congr 2; simp only [Bool.decide_and]; by_cases h1 : lo ≤ n <;> simp [h1] <;> omega, rfl⟩
 exact Df 10 hg1 <| Oen [6] <| Rr (.bool false) ⟨by congr 2; simp only [Bool.decide_and]; by_cases h1 : lo ≤ n <;> simp [h1] <;> omega, rfl⟩
theorem rIs_spec (x : Vt) (w : World) : Calls Tryz.prog 13 #[.agg x.cells.toArray] w fun e w' => e = .returned (.bool (decide (okV x))) ∧ Keep none_ w w' := by
 have hK0 := Keep.refl none_ w
 refine eV ?_
 refine Vr <| OI_box 23 (.tmp 0) (.agg (Vt.cells x).toArray) (Vt.cells x) (some 1) (by kernel_rfl) (by kernel_rfl) rfl ?_
 intro b1 w1 e1 hb1 k1 z1
 have hsz2 := Keep.size k1
 replace hK0 := hK0.tn k1
 have hb1lt := hb1.lt
 refine On 2 [1] <| Oe <| V_seq <| Vr <| On 1 [1, 3] <| Lr 3 (nt x.a) hb1 <| Kq (rIn_spec x.a 0 1073741824 _) <| On 5 [1, 7] ?_
 by_cases hg4 : (0 : Int) ≤ x.a ∧ x.a ≤ 1073741824
 ·
  refine Nt 7 hg4 <| On 6 [1, 7, 8] <| Lr 4 (nt x.n) hb1 <| Kq (rIn_spec x.n 0 1073741824 _) <| On 11 [1, 13] ?_
  by_cases hg6 : (0 : Int) ≤ x.n ∧ x.n ≤ 1073741824
  ·
   refine Nt 13 hg6 <| On 12 [1, 13, 14] <| Lr 5 (nt x.s) hb1 <| Kq (rIn_spec x.s 0 1073741824 _) <| On 17 [1, 19] ?_
   by_cases hg8 : (0 : Int) ≤ x.s ∧ x.s ≤ 1073741824
   ·
    refine Nt 19 hg8 <| On 18 [1, 19, 20] <| Lr 3 (nt x.a) hb1 <| On 20 [1, 19, 21, 22] <| Lr 4 (nt x.n) hb1 ?_
    have hw9 : i64.wrap (x.a + x.n) = x.a + x.n := wrp
    refine On 22 [1, 19, 24] <| Oq (u := nt (i64.wrap (x.a + x.n))) (v := nt (x.a + x.n)) 24 (by rw [hw9]) <| On 23 [1, 19, 24, 25] <| Lr 5 (nt x.s) hb1 ?_
    have hw10 : i64.wrap ((x.a + x.n) + x.s) = (x.a + x.n) + x.s := wrp
    refine On 25 [1, 19, 27] <| Oq (u := nt (i64.wrap ((x.a + x.n) + x.s))) (v := nt ((x.a + x.n) + x.s)) 27 (by rw [hw10]) <| Oen [1, 29] <| Vi ((x.a + x.n) + x.s > 1073741824) (fun hc11 => ?_) (fun hc11 => ?_)
    ·
     exact Vn [2] <| Rt <| Xr (.bool false) ⟨by congr 2; first | (apply Eq.symm; (try simp only [decide_eq_true_eq]); (try simp only [decide_eq_false_iff_not]); unfold okV; simp_all <;> omega) | (rw [decide_eq_decide]; unfold okV; simp_all <;> omega), hK0⟩
    refine Vsk <| V_seq <| Vr <| On 1 [1, 30] <| Lr 0 (nt x.kind) hb1 <| Oe <| V_block <| Vn [1, 31, 32] <| Vi (x.kind = 1) (fun hc12 => ?_) (fun hc12 => ?_)
    ·
     refine Vr <| On 1 [1, 34] <| Lr 2 (nt x.level) hb1 <| Kq (rIn_spec x.level 0 6 _) <| On 4 [1, 37] ?_
     by_cases hg14 : (0 : Int) ≤ x.level ∧ x.level ≤ 6
     ·
      refine Dt 37 hg14 <| On 5 [1, 37, 38] <| Lr 4 (nt x.n) hb1 <| On 9 [1, 42] ?_
      by_cases hg15 : x.n = 0
      ·
       exact Dt 42 hg15 <| On 10 [42, 43] <| Lr 5 (nt x.s) hb1 <| Oen [2] <| V_ret <| X_ret_block <| X_ret_then <| Xr (.bool (decide (x.s = 0))) ⟨by congr 2; first | (apply Eq.symm; (try simp only [decide_eq_true_eq]); (try simp only [decide_eq_false_iff_not]); unfold okV; simp_all <;> omega) | (rw [decide_eq_decide]; unfold okV; simp_all <;> omega), hK0⟩
      exact Df 42 hg15 <| Oen [2] <| V_ret <| X_ret_block <| X_ret_then <| Xr (.bool false) ⟨by congr 2; first | (apply Eq.symm; (try simp only [decide_eq_true_eq]); (try simp only [decide_eq_false_iff_not]); unfold okV; simp_all <;> omega) | (rw [decide_eq_decide]; unfold okV; simp_all <;> omega), hK0⟩
     exact Df 37 hg14 <| Oen [2] <| V_ret <| X_ret_block <| X_ret_then <| Xr (.bool false) ⟨by congr 2; first | (apply Eq.symm; (try simp only [decide_eq_true_eq]); (try simp only [decide_eq_false_iff_not]); unfold okV; simp_all <;> omega) | (rw [decide_eq_decide]; unfold okV; simp_all <;> omega), hK0⟩
    refine Vn [1, 31, 47] <| Vi (x.kind = 2) (fun hc16 => ?_) (fun hc16 => ?_)
    ·
     refine Vr <| On 1 [1, 49] <| Lr 1 (.bool x.aye) hb1 <| Os 4 [(1, pt b1),(52, .bool (!x.aye))] ?_
     cases hg17 : (!x.aye)
     ·
      exact OI_eq [(1, pt b1),(52, .bool false)] (by first | rfl | rw [hg17]) <| Oen [2] <| V_ret <| X_ret_block <| X_ret_then <| Xr (.bool false) ⟨by congr 2; first | (apply Eq.symm; (try simp only [decide_eq_true_eq]); (try simp only [decide_eq_false_iff_not]); unfold okV; simp_all <;> omega) | (rw [decide_eq_decide]; unfold okV; simp_all <;> omega), hK0⟩
     refine OI_eq [(1, pt b1),(52, .bool true)] (by first | rfl | rw [hg17]) <| On 5 [1, 52, 53] <| Lr 2 (nt x.level) hb1 <| On 9 [1, 57] ?_
     by_cases hg18 : x.level = 0
     ·
      exact Dt 57 hg18 <| On 10 [57, 58] <| Lr 5 (nt x.s) hb1 <| Oen [2] <| V_ret <| X_ret_block <| X_ret_then <| Xr (.bool (decide (x.s = 0))) ⟨by congr 2; first | (apply Eq.symm; (try simp only [decide_eq_true_eq]); (try simp only [decide_eq_false_iff_not]); unfold okV; simp_all <;> omega) | (rw [decide_eq_decide]; unfold okV; simp_all <;> omega), hK0⟩
     exact Df 57 hg18 <| Oen [2] <| V_ret <| X_ret_block <| X_ret_then <| Xr (.bool false) ⟨by congr 2; first | (apply Eq.symm; (try simp only [decide_eq_true_eq]); (try simp only [decide_eq_false_iff_not]); unfold okV; simp_all <;> omega) | (rw [decide_eq_decide]; unfold okV; simp_all <;> omega), hK0⟩
    refine Vn [1, 62] <| Vi (x.kind = 3) (fun hc19 => ?_) (fun hc19 => ?_)
    ·
     refine Vr <| On 1 [1, 64] <| Lr 1 (.bool x.aye) hb1 <| Os 4 [(1, pt b1),(67, .bool (!x.aye))] ?_
     cases hg20 : (!x.aye)
     ·
      exact OI_eq [(1, pt b1),(67, .bool false)] (by first | rfl | rw [hg20]) <| Oen [2] <| V_ret <| X_ret_block <| X_ret_then <| Xr (.bool false) ⟨by congr 2; first | (apply Eq.symm; (try simp only [decide_eq_true_eq]); (try simp only [decide_eq_false_iff_not]); unfold okV; simp_all <;> omega) | (rw [decide_eq_decide]; unfold okV; simp_all <;> omega), hK0⟩
     exact OI_eq [(1, pt b1),(67, .bool true)] (by first | rfl | rw [hg20]) <| On 5 [67, 68] <| Lr 2 (nt x.level) hb1 <| Oen [2] <| V_ret <| X_ret_block <| X_ret_then <| Xr (.bool (decide (x.level = 0))) ⟨by congr 2; first | (apply Eq.symm; (try simp only [decide_eq_true_eq]); (try simp only [decide_eq_false_iff_not]); unfold okV; simp_all <;> omega) | (rw [decide_eq_decide]; unfold okV; simp_all <;> omega), hK0⟩
    exact V_skip <| X_block <| X_then <| Vn [2] <| Rr (.bool false) ⟨by congr 2; first | (apply Eq.symm; (try simp only [decide_eq_true_eq]); (try simp only [decide_eq_false_iff_not]); unfold okV; simp_all <;> omega) | (rw [decide_eq_decide]; unfold okV; simp_all <;> omega), hK0⟩
   exact Nf 19 hg8 <| Oen [1, 29] <| Vo <| Vn [2] <| Rt <| Xr (.bool false) ⟨by congr 2; first | (apply Eq.symm; (try simp only [decide_eq_true_eq]); (try simp only [decide_eq_false_iff_not]); unfold okV; simp_all <;> omega) | (rw [decide_eq_decide]; unfold okV; simp_all <;> omega), hK0⟩
  exact Nf 13 hg6 <| Oen [1, 29] <| Vo <| Vn [2] <| Rt <| Xr (.bool false) ⟨by congr 2; first | (apply Eq.symm; (try simp only [decide_eq_true_eq]); (try simp only [decide_eq_false_iff_not]); unfold okV; simp_all <;> omega) | (rw [decide_eq_decide]; unfold okV; simp_all <;> omega), hK0⟩
 exact Nf 7 hg4 <| Oen [1, 29] <| Vo <| Vn [2] <| Rt <| Xr (.bool false) ⟨by congr 2; first | (apply Eq.symm; (try simp only [decide_eq_true_eq]); (try simp only [decide_eq_false_iff_not]); unfold okV; simp_all <;> omega) | (rw [decide_eq_decide]; unfold okV; simp_all <;> omega), hK0⟩
theorem rCapital_spec (x : Vt) (w : World) : Calls Tryz.prog 14 #[.agg x.cells.toArray] w fun e w' => e = .returned (nt (capI x)) ∧ Keep none_ w w' := by
 have hK0 := Keep.refl none_ w
 refine eV ?_
 refine Vr <| OI_box 23 (.tmp 0) (.agg (Vt.cells x).toArray) (Vt.cells x) (some 1) (by kernel_rfl) (by kernel_rfl) rfl ?_
 intro b1 w1 e1 hb1 k1 z1
 have hsz2 := Keep.size k1
 replace hK0 := hK0.tn k1
 have hb1lt := hb1.lt
 exact On 2 [1] <| Oer <| On 1 [1, 3] <| Lr 3 (nt x.a) hb1 <| On 3 [1, 4, 5] <| Lr 4 (nt x.n) hb1 <| On 6 [7, 8] <| Lr 5 (nt x.s) hb1 <| Oen [2] <| Rr (nt (i64.wrap ((i64.wrap (x.a + x.n)) + x.s))) ⟨rfl, hK0⟩
theorem rVotes_spec (n level : Int) (w : World) : Calls Tryz.prog 24 #[nt n, nt level] w fun e w' => e = .returned (nt (cvVotes n level)) ∧ w' = w := by
 refine eV ?_
 refine Vr <| On 1 [0, 1] <| Oe <| V_seq <| Vn [0, 1, 6] <| Vi (level = 0) (fun hc1 => ?_) (fun hc1 => ?_)
 ·
  exact Vn [4] <| Rt <| Xr (nt (i64.wrap (Int.tdiv n 10))) ⟨by unfold cvVotes; simp [*], rfl⟩
 exact Vsk <| Vn [4] <| Rr (nt (i64.wrap (n * level))) ⟨by unfold cvVotes; simp [*], rfl⟩
theorem rPeriod_0 (n : Int) (w : World) : Calls Tryz.prog 33 #[nt 0, nt n] w fun e w' => e = .returned (nt (cvPeriod 0 n)) ∧ w' = w := by
 refine eV ?_
 exact Vr <| On 1 [0, 1] <| Oe <| V_seq <| Vn [0, 1, 6] <| Vo <| Vn [4] <| Rt <| Xr (nt 0) ⟨rfl, rfl⟩
theorem rPeriod_1 (n : Int) (w : World) : Calls Tryz.prog 33 #[nt 1, nt n] w fun e w' => e = .returned (nt (cvPeriod 1 n)) ∧ w' = w := by
 refine eV ?_
 exact Vr <| On 1 [0, 1] <| Oe <| V_seq <| Vn [0, 1, 6] <| Vf <| Vsk <| Vn [4] <| Rr (nt (i64.wrap (n * 2 ^ 0))) ⟨rfl, rfl⟩
theorem rPeriod_2 (n : Int) (w : World) : Calls Tryz.prog 33 #[nt 2, nt n] w fun e w' => e = .returned (nt (cvPeriod 2 n)) ∧ w' = w := by
 refine eV ?_
 exact Vr <| On 1 [0, 1] <| Oe <| V_seq <| Vn [0, 1, 6] <| Vf <| Vsk <| Vn [4] <| Rr (nt (i64.wrap (n * 2 ^ 1))) ⟨rfl, rfl⟩
theorem rPeriod_3 (n : Int) (w : World) : Calls Tryz.prog 33 #[nt 3, nt n] w fun e w' => e = .returned (nt (cvPeriod 3 n)) ∧ w' = w := by
 refine eV ?_
 exact Vr <| On 1 [0, 1] <| Oe <| V_seq <| Vn [0, 1, 6] <| Vf <| Vsk <| Vn [4] <| Rr (nt (i64.wrap (n * 2 ^ 2))) ⟨rfl, rfl⟩
theorem rPeriod_4 (n : Int) (w : World) : Calls Tryz.prog 33 #[nt 4, nt n] w fun e w' => e = .returned (nt (cvPeriod 4 n)) ∧ w' = w := by
 refine eV ?_
 exact Vr <| On 1 [0, 1] <| Oe <| V_seq <| Vn [0, 1, 6] <| Vf <| Vsk <| Vn [4] <| Rr (nt (i64.wrap (n * 2 ^ 3))) ⟨rfl, rfl⟩
theorem rPeriod_5 (n : Int) (w : World) : Calls Tryz.prog 33 #[nt 5, nt n] w fun e w' => e = .returned (nt (cvPeriod 5 n)) ∧ w' = w := by
 refine eV ?_
 exact Vr <| On 1 [0, 1] <| Oe <| V_seq <| Vn [0, 1, 6] <| Vf <| Vsk <| Vn [4] <| Rr (nt (i64.wrap (n * 2 ^ 4))) ⟨rfl, rfl⟩
theorem rPeriod_6 (n : Int) (w : World) : Calls Tryz.prog 33 #[nt 6, nt n] w fun e w' => e = .returned (nt (cvPeriod 6 n)) ∧ w' = w := by
 refine eV ?_
 exact Vr <| On 1 [0, 1] <| Oe <| V_seq <| Vn [0, 1, 6] <| Vf <| Vsk <| Vn [4] <| Rr (nt (i64.wrap (n * 2 ^ 5))) ⟨rfl, rfl⟩
theorem rPeriod_spec (level n : Int) (w : World) (h : 0 ≤ level ∧ level ≤ 6) : Calls Tryz.prog 33 #[nt level, nt n] w fun e w' => e = .returned (nt (cvPeriod level n)) ∧ w' = w := by
  rcases (by omega : level = 0 ∨ level = 1 ∨ level = 2 ∨ level = 3 ∨ level = 4 ∨ level = 5 ∨ level = 6) with rfl | rfl | rfl | rfl | rfl | rfl | rfl
  · exact rPeriod_0 n w
  · exact rPeriod_1 n w
  · exact rPeriod_2 n w
  · exact rPeriod_3 n w
  · exact rPeriod_4 n w
  · exact rPeriod_5 n w
  · exact rPeriod_6 n w
theorem rGain_spec (x : Vt) (g : Wgt) (w : World) : Calls Tryz.prog 26 #[.agg x.cells.toArray, .agg g.cells.toArray] w fun e w' => e = .returned (.agg (gainT x g).cells.toArray) ∧ Keep none_ w w' := by
 have hK0 := Keep.refl none_ w
 refine enterM Tryz.func26 rfl [.agg (Vt.cells x).toArray, .agg (Wgt.cells g).toArray] 40 rfl rfl rfl ?_
 refine Vp [(0, .agg (Vt.cells x).toArray),(1, .agg (Wgt.cells g).toArray)] <| Vr <| OI_box 23 (.tmp 0) (.agg (Vt.cells x).toArray) (Vt.cells x) (some 2) (by kernel_rfl) (by kernel_rfl) rfl ?_
 intro b1 w1 e1 hb1 k1 z1
 have hsz2 := Keep.size k1
 replace hK0 := hK0.tn k1
 have hb1lt := hb1.lt
 refine OI_box 54 (.tmp 1) (.agg (Wgt.cells g).toArray) (Wgt.cells g) (some 3) (by kernel_rfl) (by kernel_rfl) rfl ?_
 intro b3 w3 e3 hb3 k3 z3
 have hsz4 := Keep.size k3
 replace hK0 := hK0.tn k3
 have hb3lt := hb3.lt
 refine Alc_ 43 (.agg #[nt 0, nt 0, nt 0]) [nt 0, nt 0, nt 0] ?_
 intro b5 w5 e5 hb5 k5 z5
 have hsz6 := Keep.size k5
 replace hb1 := hb1.k0 (k3.tr k5)
 replace hb3 := hb3.k0 k5
 replace hK0 := hK0.tn k5
 have hb5lt := hb5.lt
 refine Oe <| V_seq <| Vr <| On 1 [2, 3, 4, 6] <| Lr 0 (nt x.kind) hb1 <| Oen [2, 3, 4, 8] <| V_not (x.kind = 1) (by kernel_rfl) (fun hc7 => ?_) (fun hc7 => ?_)
 ·
  refine V_seq <| V_draws (acts [2, 5, 12]) none_ [[0, 1, 2, 3, 4, 5, 6, 7, 8, 9, 10, 11, 12]] (by kernel_rfl) (by repeat first | exact (by first | exact sure_postM | exact sure_rQ2 | exact sure_no) | refine sure_then ?_ | refine sure_block ?_ | refine sure_join ?_) (by kernel_rfl) ?_
  intro w9 hk8 he10 L hL11
  have hsz12 := Keep.size hk8
  replace hb1 := hb1.k0 hk8
  replace hb5 := hb5.k0 hk8
  replace hK0 := hK0.tn hk8
  have qhb1 := hb1
  have K13 : Keep none_ w9 w9 := Keep.refl _ _
  obtain rfl := List.mem_singleton.1 hL11
  refine Gn [1, 2, 3, 4, 5, 6, 7, 8, 9, 10, 11, 12] [2, 4, 9] <| Mr 3 (nt x.a) qhb1 <| Hq K13 (rVotes_spec x.a 0 _) <| Gn [4, 5, 6, 7, 8, 9, 10, 11, 12] [2, 4, 11, 12] <| Mr 4 (nt x.n) qhb1 <| Hq K13 (rVotes_spec x.n 0 _) <| Gn [7, 8, 9, 10, 11, 12] [2, 4, 11, 14, 15] <| Mr 3 (nt x.a) qhb1 <| Gn [9, 10, 11, 12] [4, 11, 14, 16, 17] <| Mr 5 (nt x.s) qhb1 <| Gs [12] [(4, pt b5),(20, .agg #[nt (cvVotes x.a 0), nt (cvVotes x.n 0), nt (i64.wrap (x.a + x.s))])] <| GI_final 12 (by kernel_rfl) (by kernel_rfl) <| OI_set (m := 3) (kd := true) 43 (.tmp 4) (.tmp 20) 0 (.agg #[nt (cvVotes x.a 0), nt (cvVotes x.n 0), nt (i64.wrap (x.a + x.s))]) [nt (cvVotes x.a 0), nt (cvVotes x.n 0), nt (i64.wrap (x.a + x.s))] none (by kernel_rfl) (by kernel_rfl) (by kernel_rfl) hb5 (by kernel_rfl) (by kernel_rfl) (by kernel_rfl) (Nat.le_of_ble_eq_true (by kernel_rfl)) (by simp [Value.oneCell']) ?_
  intro w16 hb5_19 hk17 hz18
  replace hb5_19 : Blk w16 b5 [nt (cvVotes x.a 0), nt (cvVotes x.n 0), nt (i64.wrap (x.a + x.s))] 43 := hb5_19
  have hsz20 := Keep.size hk17
  replace hK0 := Keep.fr hK0 hk17
  refine Oe <| Rt ?_
  exact leave0 (.agg [nt (cvVotes x.a 0), nt (cvVotes x.n 0), nt (i64.wrap (x.a + x.s))].toArray) (.inl rfl) (res_agg1 (m := 3) rfl rfl (by kernel_rfl) hb5_19 rfl) ⟨by unfold gainT; simp_all [Tly.cells], hK0⟩
 refine Vsk <| V_seq <| V_draws (acts [4]) none_ [[0, 1, 2, 3, 4, 5, 6, 7, 8]] (by kernel_rfl) (by repeat first | exact (by first | exact sure_postM | exact sure_rQ2 | exact sure_no) | refine sure_then ?_ | refine sure_block ?_ | refine sure_join ?_) (by kernel_rfl) ?_
 intro w22 hk21 he23 L hL24
 have hsz25 := Keep.size hk21
 replace hb1 := hb1.k0 hk21
 replace hb3 := hb3.k0 hk21
 replace hb5 := hb5.k0 hk21
 replace hK0 := hK0.tn hk21
 have qhb1 := hb1
 have qhb3 := hb3
 have K26 : Keep none_ w22 w22 := Keep.refl _ _
 obtain rfl := List.mem_singleton.1 hL24
 refine Gn [1, 2, 3, 4, 5, 6, 7, 8] [2, 3, 4, 21] <| Mr 3 (nt x.a) qhb1 <| Gn [3, 4, 5, 6, 7, 8] [2, 3, 4, 22, 23] <| Mr 2 (nt x.level) qhb1 <| Hq K26 (rVotes_spec x.a x.level _) <| Gn [6, 7, 8] [2, 3, 4, 25, 26] <| Mr 0 (nt g.v) qhb3 <| Gn [] [2, 3, 4, 5] <| GI_end <| X_then <| V_seq <| Vr <| On 1 [2, 3, 4, 5, 29] <| Lr 1 (.bool x.aye) hb1 <| Oe <| Vb (x.aye) (fun hc28 => ?_) (fun hc28 => ?_)
 ·
  refine Vr <| On 2 [3, 4, 31, 32] <| Lr 3 (nt x.a) hb1 <| On 4 [4, 31, 33, 34] <| Lr 1 (nt g.c) hb3 <| Os 7 [(4, pt b5),(37, .agg #[nt (i64.wrap ((cvVotes x.a x.level) + g.v)), nt 0, nt (i64.wrap (x.a + g.c))])] <| OI_set (m := 3) (kd := true) 43 (.tmp 4) (.tmp 37) 0 (.agg #[nt (i64.wrap ((cvVotes x.a x.level) + g.v)), nt 0, nt (i64.wrap (x.a + g.c))]) [nt (i64.wrap ((cvVotes x.a x.level) + g.v)), nt 0, nt (i64.wrap (x.a + g.c))] none (by kernel_rfl) (by kernel_rfl) (by kernel_rfl) hb5 (by kernel_rfl) (by kernel_rfl) (by kernel_rfl) (Nat.le_of_ble_eq_true (by kernel_rfl)) (by simp [Value.oneCell']) ?_
  intro w29 hb5_32 hk30 hz31
  replace hb5_32 : Blk w29 b5 [nt (i64.wrap ((cvVotes x.a x.level) + g.v)), nt 0, nt (i64.wrap (x.a + g.c))] 43 := hb5_32
  have hsz33 := Keep.size hk30
  replace hK0 := Keep.fr hK0 hk30
  refine Oe <| Rt ?_
  exact leave0 (.agg [nt (i64.wrap ((cvVotes x.a x.level) + g.v)), nt 0, nt (i64.wrap (x.a + g.c))].toArray) (.inl rfl) (res_agg1 (m := 3) rfl rfl (by kernel_rfl) hb5_32 rfl) ⟨by unfold gainT; simp_all [Tly.cells], hK0⟩
 refine Vsk <| Vr <| Os 2 [(4, pt b5),(39, .agg #[nt 0, nt (i64.wrap ((cvVotes x.a x.level) + g.v)), nt 0])] <| OI_set (m := 3) (kd := true) 43 (.tmp 4) (.tmp 39) 0 (.agg #[nt 0, nt (i64.wrap ((cvVotes x.a x.level) + g.v)), nt 0]) [nt 0, nt (i64.wrap ((cvVotes x.a x.level) + g.v)), nt 0] none (by kernel_rfl) (by kernel_rfl) (by kernel_rfl) hb5 (by kernel_rfl) (by kernel_rfl) (by kernel_rfl) (Nat.le_of_ble_eq_true (by kernel_rfl)) (by simp [Value.oneCell']) ?_
 intro w34 hb5_37 hk35 hz36
 replace hb5_37 : Blk w34 b5 [nt 0, nt (i64.wrap ((cvVotes x.a x.level) + g.v)), nt 0] 43 := hb5_37
 have hsz38 := Keep.size hk35
 replace hK0 := Keep.fr hK0 hk35
 refine Oe <| V_ret ?_
 exact leave0 (.agg [nt 0, nt (i64.wrap ((cvVotes x.a x.level) + g.v)), nt 0].toArray) (.inl rfl) (res_agg1 (m := 3) rfl rfl (by kernel_rfl) hb5_37 rfl) ⟨by unfold gainT; simp_all [Tly.cells], hK0⟩
end Go.Al
namespace Go.Al
open Go Go.RowKit Go.Proofs
section
variable {P : Program} {r : Option Nat} {n : Nat} {ds : List Deferred} {ops : Array Oper} {Q : Post} {i : Nat} {e : Env} {w : World}
variable {act : Nat → Bool} {S : Nat → Prop} {w1 w' : World} {l : List Nat}
end
theorem w64_d (a b : Int) : w64 (a + w64 (0 - b)) = w64 (a - b) := by
  have he : ∀ x : Int, w64 x = (x + 9223372036854775808) % 18446744073709551616 - 9223372036854775808 := fun x => by
    show i64.wrap x = _
    rw [IntKind.wrap_i64]
  simp only [he]; omega
theorem subT_d (t g : Tly) : subT t g = ⟨w64 (t.a - g.a), w64 (t.n - g.n), w64 (t.s - g.s)⟩ := by
  unfold subT addT negT
  simp only [w64_d]
theorem rAdd_spec (t g : Tly) (w : World) : Calls Tryz.prog 80 #[.agg t.cells.toArray, .agg g.cells.toArray] w fun e w' => e = .returned (.agg (addT t g).cells.toArray) ∧ Keep none_ w w' := by
 have hK0 := Keep.refl none_ w
 refine enterM Tryz.func80 rfl [.agg (Tly.cells t).toArray, .agg (Tly.cells g).toArray] 21 rfl rfl rfl ?_
 refine Vp [(0, .agg (Tly.cells t).toArray),(1, .agg (Tly.cells g).toArray)] <| Vr <| OI_box 43 (.tmp 0) (.agg (Tly.cells t).toArray) (Tly.cells t) (some 2) (by kernel_rfl) (by kernel_rfl) rfl ?_
 intro b1 w1 e1 hb1 k1 z1
 have hsz2 := Keep.size k1
 replace hK0 := hK0.tn k1
 have hb1lt := hb1.lt
 refine OI_box 43 (.tmp 1) (.agg (Tly.cells g).toArray) (Tly.cells g) (some 3) (by kernel_rfl) (by kernel_rfl) rfl ?_
 intro b3 w3 e3 hb3 k3 z3
 have hsz4 := Keep.size k3
 replace hK0 := hK0.tn k3
 have hb3lt := hb3.lt
 refine Alc_ 43 (.agg #[nt 0, nt 0, nt 0]) [nt 0, nt 0, nt 0] ?_
 intro b5 w5 e5 hb5 k5 z5
 have hsz6 := Keep.size k5
 replace hb1 := hb1.k0 (k3.tr k5)
 replace hb3 := hb3.k0 k5
 replace hK0 := hK0.tn k5
 have hb5lt := hb5.lt
 refine Oer <| On 1 [2, 3, 4, 5] <| Lr 0 (nt t.a) hb1 <| On 3 [2, 3, 4, 6, 7] <| Lr 0 (nt g.a) hb3 <| On 6 [2, 3, 4, 9, 10] <| Lr 1 (nt t.n) hb1 <| On 8 [2, 3, 4, 9, 11, 12] <| Lr 1 (nt g.n) hb3 <| On 11 [3, 4, 9, 14, 15] <| Lr 2 (nt t.s) hb1 <| On 13 [4, 9, 14, 16, 17] <| Lr 2 (nt g.s) hb3 <| Os 16 [(4, pt b5),(20, .agg #[nt (i64.wrap (t.a + g.a)), nt (i64.wrap (t.n + g.n)), nt (i64.wrap (t.s + g.s))])] <| OI_set (m := 3) (kd := true) 43 (.tmp 4) (.tmp 20) 0 (.agg #[nt (i64.wrap (t.a + g.a)), nt (i64.wrap (t.n + g.n)), nt (i64.wrap (t.s + g.s))]) [nt (i64.wrap (t.a + g.a)), nt (i64.wrap (t.n + g.n)), nt (i64.wrap (t.s + g.s))] none (by kernel_rfl) (by kernel_rfl) (by kernel_rfl) hb5 (by kernel_rfl) (by kernel_rfl) (by kernel_rfl) (Nat.le_of_ble_eq_true (by kernel_rfl)) (by simp [Value.oneCell']) ?_
 intro w7 hb5_10 hk8 hz9
 replace hb5_10 : Blk w7 b5 [nt (i64.wrap (t.a + g.a)), nt (i64.wrap (t.n + g.n)), nt (i64.wrap (t.s + g.s))] 43 := hb5_10
 have hsz11 := Keep.size hk8
 replace hK0 := Keep.fr hK0 hk8
 refine Oe <| V_ret ?_
 exact leave0 (.agg [nt (i64.wrap (t.a + g.a)), nt (i64.wrap (t.n + g.n)), nt (i64.wrap (t.s + g.s))].toArray) (.inl rfl) (res_agg1 (m := 3) rfl rfl (by kernel_rfl) hb5_10 rfl) ⟨rfl, hK0⟩
theorem rSub_spec (t g : Tly) (w : World) : Calls Tryz.prog 105 #[.agg t.cells.toArray, .agg g.cells.toArray] w fun e w' => e = .returned (.agg (subT t g).cells.toArray) ∧ Keep none_ w w' := by
 have hK0 := Keep.refl none_ w
 refine enterM Tryz.func105 rfl [.agg (Tly.cells t).toArray, .agg (Tly.cells g).toArray] 21 rfl rfl rfl ?_
 refine Vp [(0, .agg (Tly.cells t).toArray),(1, .agg (Tly.cells g).toArray)] <| Vr <| OI_box 43 (.tmp 0) (.agg (Tly.cells t).toArray) (Tly.cells t) (some 2) (by kernel_rfl) (by kernel_rfl) rfl ?_
 intro b1 w1 e1 hb1 k1 z1
 have hsz2 := Keep.size k1
 replace hK0 := hK0.tn k1
 have hb1lt := hb1.lt
 refine OI_box 43 (.tmp 1) (.agg (Tly.cells g).toArray) (Tly.cells g) (some 3) (by kernel_rfl) (by kernel_rfl) rfl ?_
 intro b3 w3 e3 hb3 k3 z3
 have hsz4 := Keep.size k3
 replace hK0 := hK0.tn k3
 have hb3lt := hb3.lt
 refine Alc_ 43 (.agg #[nt 0, nt 0, nt 0]) [nt 0, nt 0, nt 0] ?_
 intro b5 w5 e5 hb5 k5 z5
 have hsz6 := Keep.size k5
 replace hb1 := hb1.k0 (k3.tr k5)
 replace hb3 := hb3.k0 k5
 replace hK0 := hK0.tn k5
 have hb5lt := hb5.lt
 refine Oer <| On 1 [2, 3, 4, 5] <| Lr 0 (nt t.a) hb1 <| On 3 [2, 3, 4, 6, 7] <| Lr 0 (nt g.a) hb3 <| On 6 [2, 3, 4, 9, 10] <| Lr 1 (nt t.n) hb1 <| On 8 [2, 3, 4, 9, 11, 12] <| Lr 1 (nt g.n) hb3 <| On 11 [3, 4, 9, 14, 15] <| Lr 2 (nt t.s) hb1 <| On 13 [4, 9, 14, 16, 17] <| Lr 2 (nt g.s) hb3 <| Os 16 [(4, pt b5),(20, .agg #[nt (i64.wrap (t.a - g.a)), nt (i64.wrap (t.n - g.n)), nt (i64.wrap (t.s - g.s))])] <| OI_set (m := 3) (kd := true) 43 (.tmp 4) (.tmp 20) 0 (.agg #[nt (i64.wrap (t.a - g.a)), nt (i64.wrap (t.n - g.n)), nt (i64.wrap (t.s - g.s))]) [nt (i64.wrap (t.a - g.a)), nt (i64.wrap (t.n - g.n)), nt (i64.wrap (t.s - g.s))] none (by kernel_rfl) (by kernel_rfl) (by kernel_rfl) hb5 (by kernel_rfl) (by kernel_rfl) (by kernel_rfl) (Nat.le_of_ble_eq_true (by kernel_rfl)) (by simp [Value.oneCell']) ?_
 intro w7 hb5_10 hk8 hz9
 replace hb5_10 : Blk w7 b5 [nt (i64.wrap (t.a - g.a)), nt (i64.wrap (t.n - g.n)), nt (i64.wrap (t.s - g.s))] 43 := hb5_10
 have hsz11 := Keep.size hk8
 replace hK0 := Keep.fr hK0 hk8
 refine Oe <| V_ret ?_
 exact leave0 (.agg [nt (i64.wrap (t.a - g.a)), nt (i64.wrap (t.n - g.n)), nt (i64.wrap (t.s - g.s))].toArray) (.inl rfl) (res_agg1 (m := 3) rfl rfl (by kernel_rfl) hb5_10 rfl) ⟨by rw [subT_d]; rfl, hK0⟩
end Go.Al
