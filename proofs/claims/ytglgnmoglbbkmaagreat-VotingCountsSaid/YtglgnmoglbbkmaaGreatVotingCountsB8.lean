/-
  Put together out of 13 texts: Walks of package voting: Undelegate. Package voting: Undelegate. Walks of package voting: what is told of records. Package voting: what is told of records. Walks of the laws of voting: what is lent counts. The laws of voting: a vote that is cast anew. The laws of voting
-/
import Derived.Test.YtglgnmoglbbkmaaGreatVotingCountsB7
open Go.IntKind (i64)
set_option maxRecDepth 10000
namespace Go.Al
open Go Go.RowKit Go.Proofs
set_option maxHeartbeats 1000000 in
theorem undelegate_at (F : Nat → Prop) (v : Nat) (P : VP) (s : VS) (who t now : Int) (w : World) (h : Vot F w v P s) : Calls Tryz.prog 23 #[pt v, nt who, nt t, nt now] w fun e w' => e = .returned (nt (undE s who t)) ∧ (∃ F', VotE F' w' v (undS s who t now) ∧ (∀ q, F' q → F q ∨ w.heap.size ≤ q)) ∧ Keep F w w' := by
 have hFlt := Vot.lt h
 have hvlt := hFlt _ (Vot.at_ h)
 have hFo : ∀ q, F q → 0 ≤ q := fun q _ => Nat.zero_le q
 have hFr : ∀ q, F q → F q ∨ w.heap.size ≤ q := fun _ h => .inl h
 have hinv := Vot.inv h
 have hK0 := Keep.refl F w
 refine eV ?_
 refine Vr <| On 1 [0, 1, 2, 3] <| Oe <| V_seq <| Vr <| On 4 [0, 1, 2, 3, 13, 14] <| Kq (isAcc_spec who _) <| On 8 [0, 1, 2, 3, 18] ?_
 by_cases hg6 : 0 ≤ who ∧ who ≤ 9
 ·
  refine Nt 18 hg6 <| On 9 [0, 1, 2, 3, 18, 19] <| Kq (isTrk_spec t _) <| Oen [0, 1, 2, 3, 22] <| V_not (0 ≤ t ∧ t ≤ 3) (by kernel_rfl) (fun hc12 => ?_) (fun hc12 => ?_)
  ·
   refine Vn [8] <| Rt ?_
   have hE13 : undE s who t = 1 := by unfold undE; rw [if_pos (.inr (hc12))]
   exact Xr (nt 1) ⟨by rw [hE13], ⟨F, ⟨_, by rw [show undS s who t now = s from by unfold undS; rw [hE13, if_neg (by decide)]]; exact h⟩, hFr⟩, hK0⟩
  refine Vsk <| Vr <| On 3 [0, 2, 3, 23, 24, 25] ?_
  rcases hd14 : (s.rc who t).d with _ | d15
  ·
   refine Kg (record_spec F v P s who t _ h (by omega) (by omega)) ?_
   rintro _ w30 ⟨q20, P21, rfl, hgc25, hpp26, hgv27, hmn28, hdl29, ⟨F22, ho23, hfr24⟩, hk31⟩
   refine ⟨_, rfl, ?_⟩
   have hsz32 := Keep.size hk31
   replace hK0 := frr hK0 hk31 hFr
   have own34 : ∀ q, F22 q → 0 ≤ q := fun q hq => by rcases hfr24 q hq with h | h; (have h1 := hFo q h; have h2 := hFlt q h; omega); omega
   have lt33 := Vot.lt ho23
   have rel35 : ∀ q, F22 q → F q ∨ w.heap.size ≤ q := fun q hq => by rcases hfr24 q hq with h | h; exact hFr q h; exact .inr (by omega)
   have hgq20lt := lt33 _ (Vot.at_ ho23)
   obtain ⟨hF37, hm36⟩ := Vot.recN ho23 hgc25 hd14
   have hq20lt := hm36.lt
   have hloq20 := lt33 _ hF37
   have hoq20 := own34 _ hF37
   refine On 5 [0, 2, 3, 9] <| Oer <| On 3 [0, 2, 3, 9, 29] <| Lr 0 (.pointer none) hm36 <| On 5 [0, 2, 3, 9, 10] <| Oe <| V_seq <| Vn [0, 2, 3, 9, 10, 32] <| Vo <| Vn [8] <| Rt ?_
   have hE38 : undE s who t = 4 := by unfold undE; rw [if_neg (by rintro (h9 | h9); exact h9 hg6; exact h9 hc12)]; rw [if_neg (by rw [hd14]; decide)]
   exact Xr (nt 4) ⟨by rw [hE38], ⟨F22, ⟨_, by rw [show undS s who t now = s from by unfold undS; rw [hE38, if_neg (by decide)]]; exact ho23⟩, rel35⟩, hK0⟩
  ·
   refine Kg (record_spec F v P s who t _ h (by omega) (by omega)) ?_
   rintro _ w53 ⟨q43, P44, rfl, hgc48, hpp49, hgv50, hmn51, hdl52, ⟨F45, ho46, hfr47⟩, hk54⟩
   refine ⟨_, rfl, ?_⟩
   have hsz55 := Keep.size hk54
   replace hK0 := frr hK0 hk54 hFr
   have own57 : ∀ q, F45 q → 0 ≤ q := fun q hq => by rcases hfr47 q hq with h | h; (have h1 := hFo q h; have h2 := hFlt q h; omega); omega
   have lt56 := Vot.lt ho46
   have rel58 : ∀ q, F45 q → F q ∨ w.heap.size ≤ q := fun q hq => by rcases hfr47 q hq with h | h; exact hFr q h; exact .inr (by omega)
   have hgq43lt := lt56 _ (Vot.at_ ho46)
   obtain ⟨bd61, hF60, hF62, hm59, hm63⟩ := Vot.recD ho46 hgc48 hd14
   have hbd61lt := hm63.lt
   have hlobd61 := lt56 _ hF62
   have hobd61 := own57 _ hF62
   have hq43lt := hm59.lt
   have hloq43 := lt56 _ hF60
   have hoq43 := own57 _ hF60
   have hnebd61q43 : bd61 ≠ q43 := Blk.ne hm63 hm59 (by decide)
   refine On 5 [0, 2, 3, 9] <| Oer <| On 3 [0, 2, 3, 9, 29] <| Lr 0 (pt bd61) hm59 <| On 5 [0, 2, 3, 9, 10] <| Oe <| V_seq <| Vn [0, 2, 3, 9, 10, 32] <| Vf <| Vsk <| Vr <| On 3 [0, 2, 3, 9, 10, 35] <| St_ 0 (.pointer none) hm59 ?_
   intro w64 hn67 hk65 hz66
   replace hn67 : Blk w64 q43 [.pointer none, nt (((s.rc who t)).got.v), nt (((s.rc who t)).got.c), nt (((s.rc who t)).till), nt (((s.rc who t)).n)] 99 := hn67
   have hsz68 := Keep.size hk65
   replace hm63 := hm63.keep hk65 (by show ¬ (bd61 = q43); omega)
   replace hK0 := Keep.fresh hK0 hk65 (fun i hi hs => by have hs : F45 i := (by rw [show i = q43 from hs]; exact hF60); rcases rel58 i hs with h | h; exact h; (exfalso; omega))
   have ho69 := Vot.setRec (a := who) (t := t) (r' := { (s.rc who t) with d := none }) (dp := (some ⟨bd61, 0, none⟩)) (dp' := none) ho46 hgc48 hm59 hk65 (show Blk _ _ (RecS.cells none { (s.rc who t) with d := none }) _ from hn67) (.inr ⟨rfl, rfl⟩)
   obtain ⟨r70, hr70⟩ : ∃ r9 : RecS, r9 = { (s.rc who t) with d := none } := ⟨_, rfl⟩
   replace hn67 : Blk w64 q43 (RecS.cells none r70) 99 := by rw [hr70]; exact hn67
   have hq43lt := hn67.lt
   refine Oe <| V_seq <| Vd1 (acts [14, 22]) none_ [6, 7, 8, 9, 10, 11, 12, 13, 14, 0, 1, 2, 3, 4, 5, 15, 16, 17, 18, 19, 20, 21, 22] fun w72 hk71 he73 K76 _ => ?_
   replace hm63 := hm63.k0 hk71
   replace hK0 := hK0.tn hk71
   replace ho69 := ho69.keep hk71 nk
   have qhm63 := hm63
   refine Gn [9, 10, 11, 12, 13, 14, 0, 1, 2, 3, 4, 5, 15, 16, 17, 18, 19, 20, 21, 22] [0, 2, 3, 9, 10, 44] <| Mr 2 (nt ((d15).n)) qhm63 <| Gn [13, 14, 0, 1, 2, 3, 4, 5, 15, 16, 17, 18, 19, 20, 21, 22] [0, 2, 3, 9, 10, 45, 48] <| Mr 1 (nt ((d15).level)) qhm63 <| Hq K76 (cvVotes_spec ((d15).n) ((d15).level) _) <| Gn [4, 5, 15, 16, 17, 18, 19, 20, 21, 22] [2, 3, 9, 10, 36, 39, 50] <| Mr 0 (nt ((d15).to)) qhm63 <| Gn [19, 20, 21, 22] [3, 9, 10, 36, 40, 41, 51, 54] <| Mr 2 (nt ((d15).n)) qhm63 <| Gn [22] [3, 9, 10, 36, 40, 41, 57] <| GI_final 22 (by kernel_rfl) (by kernel_rfl) <| Kg (gets_spec F45 v P44 (s.setR who t { (s.rc who t) with d := none }) ((d15).to) t (Wgt.mk (i64.wrap (0 - (cvVotes ((d15).n) ((d15).level)))) (i64.wrap (0 - ((d15).n)))) _ ho69 (hinv.dels _ _ _ hd14).1 (by omega)) ?_
   rintro _ w84 ⟨rfl, P86, hpp90, hgv91, hmn92, hdl93, ⟨F87, ho88, hfr89⟩, hk85⟩
   refine ⟨_, rfl, ?_⟩
   have hsz94 := Keep.size hk85
   replace hK0 := frr hK0 hk85 rel58
   have own96 : ∀ q, F87 q → 0 ≤ q := fun q hq => by rcases hfr89 q hq with h | h; (have h1 := own57 q h; have h2 := lt56 q h; omega); omega
   have lt95 := Vot.lt ho88
   have rel97 : ∀ q, F87 q → F q ∨ w.heap.size ≤ q := fun q hq => by rcases hfr89 q hq with h | h; exact rel58 q h; exact .inr (by omega)
   have hqq43w84 := hmn92 _ _ _ hgc48
   obtain ⟨hF99, hm98⟩ := Vot.recN ho88 hqq43w84 (by rw [getsS_d]; exact (by rw [show (s.setR who t { (s.rc who t) with d := none }).rc who t = r70 from ((updR_self _ _ _ _).trans hr70.symm)]; first | done | exact (by rw [hr70])))
   have hq43lt := hm98.lt
   have hloq43 := lt95 _ hF99
   have hoq43 := own96 _ hF99
   have hdkbd61 := hdl93 bd61 _ hm63
   have hbd61lt := hdkbd61.lt
   refine Oe <| V_seq <| Vd1 (acts [6, 13]) none_ [2, 3, 4, 5, 6, 0, 1, 7, 8, 9, 10, 11, 12, 13] fun w101 hk100 he102 K105 _ => ?_
   replace hm98 := hm98.k0 hk100
   replace hdkbd61 := hdkbd61.k0 hk100
   replace hK0 := hK0.tn hk100
   replace ho88 := ho88.keep hk100 nk
   have qhdkbd61 := hdkbd61
   refine Gn [5, 6, 0, 1, 7, 8, 9, 10, 11, 12, 13] [3, 9, 10, 63] <| Mr 1 (nt ((d15).level)) qhdkbd61 <| Hq K105 (cvPeriod_spec ((d15).level) 8 _ (hinv.dels _ _ _ hd14).2.1) <| Gn [11, 12, 13] [3, 59, 66, 69] <| Mr 2 (nt ((d15).n)) qhdkbd61 <| Gn [13] [59, 66, 70, 71] <| GI_final 13 (by kernel_rfl) (by kernel_rfl) <| Kg (joins_spec q43 none ((getsS (s.setR who t { (s.rc who t) with d := none }) ((d15).to) t (Wgt.mk (i64.wrap (0 - (cvVotes ((d15).n) ((d15).level)))) (i64.wrap (0 - ((d15).n))))).rc who t) (i64.wrap (now + (cvPeriod ((d15).level) 8))) ((d15).n) now _ hm98) ?_
   rintro _ w113 ⟨rfl, hn115, hk114⟩
   refine ⟨_, rfl, ?_⟩
   have hsz116 := Keep.size hk114
   replace hK0 := Keep.fresh hK0 hk114 (fun i hi hs => by have hs : F87 i := (by rw [show i = q43 from hs]; exact hF99); rcases rel97 i hs with h | h; exact h; (exfalso; omega))
   have ho117 := Vot.setRec (a := who) (t := t) (r' := (joinR ((getsS (s.setR who t { (s.rc who t) with d := none }) ((d15).to) t (Wgt.mk (i64.wrap (0 - (cvVotes ((d15).n) ((d15).level)))) (i64.wrap (0 - ((d15).n))))).rc who t) (i64.wrap (now + (cvPeriod ((d15).level) 8))) ((d15).n) now)) (dp := none) (dp' := none) ho88 hqq43w84 hm98 hk114 (show Blk _ _ (RecS.cells none (joinR ((getsS (s.setR who t { (s.rc who t) with d := none }) ((d15).to) t (Wgt.mk (i64.wrap (0 - (cvVotes ((d15).n) ((d15).level)))) (i64.wrap (0 - ((d15).n))))).rc who t) (i64.wrap (now + (cvPeriod ((d15).level) 8))) ((d15).n) now)) _ from hn115) (.inl ⟨rfl, by first | rfl | exact joinR_d _ _ _ _ | (rw [show (getsS (s.setR who t { (s.rc who t) with d := none }) ((d15).to) t (Wgt.mk (i64.wrap (0 - (cvVotes ((d15).n) ((d15).level)))) (i64.wrap (0 - ((d15).n))))).rc who t = ((getsS (s.setR who t { (s.rc who t) with d := none }) ((d15).to) t (Wgt.mk (i64.wrap (0 - (cvVotes ((d15).n) ((d15).level)))) (i64.wrap (0 - ((d15).n))))).rc who t) from rfl]) | (rw [show (getsS (s.setR who t { (s.rc who t) with d := none }) ((d15).to) t (Wgt.mk (i64.wrap (0 - (cvVotes ((d15).n) ((d15).level)))) (i64.wrap (0 - ((d15).n))))).rc who t = ((getsS (s.setR who t { (s.rc who t) with d := none }) ((d15).to) t (Wgt.mk (i64.wrap (0 - (cvVotes ((d15).n) ((d15).level)))) (i64.wrap (0 - ((d15).n))))).rc who t) from rfl]; exact joinR_d _ _ _ _)⟩)
   obtain ⟨r118, hr118⟩ : ∃ r9 : RecS, r9 = (joinR ((getsS (s.setR who t { (s.rc who t) with d := none }) ((d15).to) t (Wgt.mk (i64.wrap (0 - (cvVotes ((d15).n) ((d15).level)))) (i64.wrap (0 - ((d15).n))))).rc who t) (i64.wrap (now + (cvPeriod ((d15).level) 8))) ((d15).n) now) := ⟨_, rfl⟩
   replace hn115 : Blk w113 q43 (RecS.cells none r118) 99 := by rw [hr118]; exact hn115
   have hq43lt := hn115.lt
   refine Oer <| Oen [8] <| V_ret ?_
   have hE119 : undE s who t = 0 := by unfold undE; rw [if_neg (by rintro (h9 | h9); exact h9 hg6; exact h9 hc12)]; rw [if_pos (by rw [hd14]; rfl)]
   exact Xr (nt 0) ⟨by rw [hE119], ⟨F87, ⟨_, by rw [show undS s who t now = ((getsS (s.setR who t { (s.rc who t) with d := none }) ((d15).to) t (Wgt.mk (i64.wrap (0 - (cvVotes ((d15).n) ((d15).level)))) (i64.wrap (0 - ((d15).n))))).setR who t (joinR ((getsS (s.setR who t { (s.rc who t) with d := none }) ((d15).to) t (Wgt.mk (i64.wrap (0 - (cvVotes ((d15).n) ((d15).level)))) (i64.wrap (0 - ((d15).n))))).rc who t) (i64.wrap (now + (cvPeriod ((d15).level) 8))) ((d15).n) now)) from by unfold undS; rw [hE119, if_pos rfl, hd14]; rfl]; exact ho117⟩, rel97⟩, hK0⟩
 refine Nf 18 hg6 <| Oen [0, 1, 2, 3, 22] <| Vo <| Vn [8] <| Rt ?_
 have hE120 : undE s who t = 1 := by unfold undE; rw [if_pos (.inl hg6)]
 exact Xr (nt 1) ⟨by rw [hE120], ⟨F, ⟨_, by rw [show undS s who t now = s from by unfold undS; rw [hE120, if_neg (by decide)]]; exact h⟩, hFr⟩, hK0⟩
end Go.Al
namespace Go.Al
open Go Go.RowKit Go.Proofs
theorem undelegate_specT (F : Nat → Prop) (v : Nat) (s : VS) (who t now : Int) (w : World) (h : VotT F w v s) : Calls Tryz.prog 23 #[pt v, nt who, nt t, nt now] w fun e w' => e = .returned (nt (undE s who t)) ∧ (∃ F', VotT F' w' v (undS s who t now) ∧ (∀ q, F' q → F q ∨ w.heap.size ≤ q)) ∧ Keep F w w' := by
  obtain ⟨h, ht⟩ := h
  refine ((let ⟨P, h⟩ := h; undelegate_at F v P s who t now w h)).mono ?_
  rintro e w' ⟨rfl, ⟨F', h1, h3⟩, hk⟩
  exact ⟨rfl, ⟨F', ⟨h1, ht.undS _ _ _⟩, h3⟩, hk⟩
end Go.Al
namespace Go.Al
open Go Go.RowKit Go.Proofs
def delT (s : VS) (a t : Int) : Value := match (s.rc a t).d with | none => .tuple #[nt 0, nt 0, nt 0, .bool false] | some d => .tuple #[nt d.to, nt d.level, nt d.n, .bool true]
theorem delegating_in (F : Nat → Prop) (v : Nat) (P : VP) (s : VS) (a t : Int) (w : World) (h : Vot F w v P s)(ha : 0 ≤ a ∧ a < 10) (ht : 0 ≤ t ∧ t < 4) : Calls Tryz.prog 30 #[pt v, nt a, nt t] w fun e w' => e = .returned (delT s a t) ∧ (∃ F', VotE F' w' v s ∧ (∀ q, F' q → F q ∨ w.heap.size ≤ q)) ∧ Keep F w w' := by
 have hFlt := Vot.lt h
 have hvlt := hFlt _ (Vot.at_ h)
 have hFo : ∀ q, F q → 0 ≤ q := fun q _ => Nat.zero_le q
 have hFr : ∀ q, F q → F q ∨ w.heap.size ≤ q := fun _ h => .inl h
 have hK0 := Keep.refl F w
 refine eV ?_
 refine Vr <| On 4 [0, 1, 2] <| Oer <| On 3 [11, 12, 13] ?_
 rcases hd1 : (s.rc a t).d with _ | d2
 ·
  refine Kg (record_spec F v P s a t _ h ha ht) ?_
  rintro _ w15 ⟨q5, P6, rfl, hgc10, hpp11, hgv12, hmn13, hdl14, ⟨F7, ho8, hfr9⟩, hk16⟩
  refine ⟨_, rfl, ?_⟩
  have hsz17 := Keep.size hk16
  replace hK0 := frr hK0 hk16 hFr
  have own19 : ∀ q, F7 q → 0 ≤ q := fun q hq => by rcases hfr9 q hq with h | h; (have h1 := hFo q h; have h2 := hFlt q h; omega); omega
  have lt18 := Vot.lt ho8
  have rel20 : ∀ q, F7 q → F q ∨ w.heap.size ≤ q := fun q hq => by rcases hfr9 q hq with h | h; exact hFr q h; exact .inr (by omega)
  have hgq5lt := lt18 _ (Vot.at_ ho8)
  obtain ⟨hF22, hm21⟩ := Vot.recN ho8 hgc10 hd1
  have hq5lt := hm21.lt
  have hoq5 := own19 _ hF22
  exact On 6 [16] <| Lr 0 (.pointer none) hm21 <| On 8 [10] <| Oe <| V_seq <| Vn [10, 19] <| Vo <| Vn [6, 7, 8, 9] <| Rt <| Xr (.tuple #[nt 0, nt 0, nt 0, .bool false]) ⟨by unfold delT; rw [hd1], ⟨F7, ⟨_, ho8⟩, rel20⟩, hK0⟩
 ·
  refine Kg (record_spec F v P s a t _ h ha ht) ?_
  rintro _ w35 ⟨q25, P26, rfl, hgc30, hpp31, hgv32, hmn33, hdl34, ⟨F27, ho28, hfr29⟩, hk36⟩
  refine ⟨_, rfl, ?_⟩
  have hsz37 := Keep.size hk36
  replace hK0 := frr hK0 hk36 hFr
  have own39 : ∀ q, F27 q → 0 ≤ q := fun q hq => by rcases hfr29 q hq with h | h; (have h1 := hFo q h; have h2 := hFlt q h; omega); omega
  have lt38 := Vot.lt ho28
  have rel40 : ∀ q, F27 q → F q ∨ w.heap.size ≤ q := fun q hq => by rcases hfr29 q hq with h | h; exact hFr q h; exact .inr (by omega)
  have hgq25lt := lt38 _ (Vot.at_ ho28)
  obtain ⟨bd43, hF42, hF44, hm41, hm45⟩ := Vot.recD ho28 hgc30 hd1
  have hbd43lt := hm45.lt
  have hobd43 := own39 _ hF44
  have hq25lt := hm41.lt
  have hoq25 := own39 _ hF42
  have hnebd43q25 : bd43 ≠ q25 := Blk.ne hm45 hm41 (by decide)
  refine On 6 [16] <| Lr 0 (pt bd43) hm41 <| On 8 [10] <| Oe <| V_seq <| Vn [10, 19] <| Vf <| Vsk <| V_seq <| Vd1 (acts []) none_ [0, 1, 2, 3, 4, 5, 6, 7, 8, 9, 10, 11, 12, 13, 14, 15] fun w47 hk46 he48 K51 _ => ?_
  replace hm45 := hm45.k0 hk46
  replace hK0 := hK0.tn hk46
  replace ho28 := ho28.keep hk46 nk
  have qhm45 := hm45
  exact Gn [3, 4, 5, 6, 7, 8, 9, 10, 11, 12, 13, 14, 15] [10, 22] <| Mr 0 (nt d2.to) qhm45 <| Gn [7, 8, 9, 10, 11, 12, 13, 14, 15] [10, 23, 26] <| Mr 1 (nt d2.level) qhm45 <| Gn [11, 12, 13, 14, 15] [23, 27, 30] <| Mr 2 (nt d2.n) qhm45 <| Gn [] [6, 7, 8, 9] <| GI_end <| X_then <| Rr (.tuple #[nt d2.to, nt d2.level, nt d2.n, .bool true]) ⟨by unfold delT; rw [hd1], ⟨F27, ⟨_, ho28⟩, rel40⟩, hK0⟩
theorem delegating_out (v : Nat) (a t : Int) (w : World) (hr : ¬ ((0 ≤ a ∧ a < 10) ∧ (0 ≤ t ∧ t < 4))) : Calls Tryz.prog 30 #[pt v, nt a, nt t] w (rk_ w (.tuple #[nt 0, nt 0, nt 0, .bool false])) := by
 have hK0 := Keep.refl none_ w
 refine eV ?_
 refine Vr <| On 4 [0, 1, 2] <| Oer <| On 3 [11, 12, 13] <| Kg (record_out v a t _ hr) ?_
 rintro _ w1 ⟨q3, rfl, hgeq3, hq3, hk2⟩
 refine ⟨_, rfl, ?_⟩
 have hsz4 := Keep.size hk2
 replace hK0 := hK0.tn hk2
 have hq3lt := hq3.lt
 exact On 6 [16] <| Lr 0 (.pointer none) hq3 <| On 8 [10] <| Oe <| V_seq <| Vn [10, 19] <| Vo <| Vn [6, 7, 8, 9] <| Rt <| Xr (.tuple #[nt 0, nt 0, nt 0, .bool false]) ⟨rfl, hK0⟩
theorem delegating_spec (F : Nat → Prop) (v : Nat) (s : VS) (a t : Int) (w : World) (h : VotE F w v s) : Calls Tryz.prog 30 #[pt v, nt a, nt t] w fun e w' => e = .returned (delT s a t) ∧ (∃ F', VotE F' w' v s ∧ (∀ q, F' q → F q ∨ w.heap.size ≤ q)) ∧ Keep F w w' := by
  obtain ⟨P, hP⟩ := h
  by_cases hr : (0 ≤ a ∧ a < 10) ∧ (0 ≤ t ∧ t < 4)
  · exact delegating_in F v P s a t w hP hr.1 hr.2
  · refine (delegating_out v a t w hr).mono ?_
    rintro e w' ⟨rfl, hk⟩
    exact ⟨by unfold delT; rw [hP.rc_out hr]; rfl, VotE.same ⟨P, hP⟩ hk⟩
end Go.Al
namespace Go.Al
open Go Go.RowKit Go.Proofs
theorem delegating_specT (F : Nat → Prop) (v : Nat) (s : VS) (a t : Int) (w : World) (h : VotT F w v s) : Calls Tryz.prog 30 #[pt v, nt a, nt t] w fun e w' => e = .returned (delT s a t) ∧ (∃ F', VotT F' w' v s ∧ (∀ q, F' q → F q ∨ w.heap.size ≤ q)) ∧ Keep F w w' := by
  obtain ⟨h, ht⟩ := h
  refine (delegating_spec F v s a t w h).mono ?_
  rintro e w' ⟨rfl, ⟨F', h1, h3⟩, hk⟩
  exact ⟨rfl, ⟨F', ⟨h1, ht⟩, h3⟩, hk⟩
end Go.Al
namespace Go.Al
open Go Go.RowKit Go.Proofs
def knX : List Acc := newX [0, 10, 10] 10
def knV : Vt := ⟨1, true, 2, 10, 0, 0⟩
def knS1 : VS := openS VS.zero 0 1
def knS2 : VS := delS knX knS1 2 1 1 1 10
def knC2 : List Ci := delC2 knX [] knS1 2 1 1 1 10
def knS3 : VS := voteS knX knS2 1 0 knV
def knC3 : List Ci := voteC knX knC2 knS2 1 0 knV
theorem kn1 : openE VS.zero 0 1 = 0 := by kernel_rfl
theorem kn2 : delE knX knS1 2 1 1 1 10 = 0 := by kernel_rfl
theorem kn3 : voteE knX knS2 1 0 knV = 0 := by kernel_rfl
theorem kn4 : tallyT knS3 0 = ⟨30, 0, 20⟩ := by kernel_rfl
theorem kn0 : newX (msk24 ([0, 10, 10].take 10)) 10 = knX := by kernel_rfl
theorem kn5 : knC2.length < 100000 := by rw [show knC2.length = 1 by kernel_rfl]; decide
theorem known_spec (w : World) : Calls Tryz.prog 22 #[] w (rk_ w (.bool true)) := by
 have hK0 := Keep.refl none_ w
 refine eV ?_
 refine Vr <| On 1 [] <| Oer <| OI_slit (E := 3) (zv := nt 0) (sz := 1) (by_ := 8) 28 3 #[(0, (Operand.const (Value.int IntKind.i64 0))),(1, (Operand.const (Value.int IntKind.i64 10))),(2, (Operand.const (Value.int IntKind.i64 10)))] [nt 0, nt 10, nt 10] [nt 0, nt 10, nt 10] (some 5) (by kernel_rfl) (by kernel_rfl) (by kernel_rfl) (by omega) rfl (by omega) (by intro v hv; simp only [List.mem_cons, List.not_mem_nil, or_false] at hv; rcases hv with rfl | rfl | rfl <;> rfl) (by kernel_rfl) rfl ?_
 intro b1 w1 e1 hb1 k1 z1
 have hsz2 := Keep.size k1
 replace hK0 := hK0.tn k1
 have hb1lt := hb1.lt
 refine Kg (begin_weak (some ⟨b1, 0, none⟩) 3 [0, 10, 10] _ (slt_blk (xs := [0, 10, 10]) (f := intc) hb1 (fun _ => rfl) rfl).arg (by simp)) ?_
 rintro _ w5 ⟨b7, v8, l9, F10, G11, xv12, yv13, rfl, hb14, ho15, hl16, hk6, hge17, hF18, hG19, hd20⟩
 refine ⟨_, rfl, ?_⟩
 have hsz21 := Keep.size hk6
 replace hK0 := hK0.tn hk6
 have hb7lt := hb14.lt
 have own22 : ∀ q, F10 q → w1.heap.size ≤ q ∧ q ≠ b1 ∧ q ≠ b7 := fun q hq => by have h1 := hF18 q hq; omega
 have lt23 := VotT.lt ho15
 have hb7lt := hb14.lt
 have own24 : ∀ q, G11 q → w1.heap.size ≤ q ∧ q ≠ b1 ∧ q ≠ b7 := fun q hq => by have h1 := hG19 q hq; omega
 have lt25 := Led.lt hl16
 replace hl16 : Led G11 w5 l9 knX ([] : List Ci) := by rw [kn0] at hl16; exact hl16
 refine On 3 [1] <| Oe <| V_seq <| Vn [1, 8] <| Vf <| Vsk <| Vr <| On 3 [1, 11] <| Oc 31 (.tmp 11) 1 (pt v8) (some 12) hb14 rfl <| Ok (kl 16 #[(.tmp 12),(.const (nt 0)),(.const (nt 1))] #[31, 3, 3]) 16 #[pt v8, nt 0, nt 1] (some 13) (open_specT F10 v8 VS.zero 0 1 _ ho15) ?_
 rintro _ w28 ⟨rfl, ⟨F30, ho31, hfr32⟩, hk29⟩
 refine ⟨_, rfl, ?_⟩
 have hsz33 := Keep.size hk29
 replace hb14 := hb14.keep hk29 (fun hs => by have h1 := own22 _ hs; have h2 := lt23 _ hs; omega)
 replace hK0 := Keep.fresh hK0 hk29 (by intro i hi hs; first | exact hs | (exfalso; have h1 := own22 i hs; have h2 := lt23 i hs; omega) | (have h1 := own22 i hs; have h2 := lt23 i hs; show _ ∨ _; omega))
 replace hl16 := hl16.keep hk29 (fun q hq hs => hd20 q hs hq)
 have own35 : ∀ q, F30 q → w1.heap.size ≤ q ∧ q ≠ b7 := fun q hq => by rcases hfr32 q hq with h | h; (have h1 := own22 q h; have h2 := lt23 q h; omega); omega
 have lt34 := VotT.lt ho31
 have dis36 : ∀ q, F30 q → ¬ G11 q := fun q h1 h2 => by rcases hfr32 q h1 with h | h; exact hd20 q h h2; (have h4 := lt25 q h2; omega)
 replace ho31 : VotT F30 w28 v8 knS1 := by rw [show openS VS.zero 0 1 = knS1 from rfl] at ho31; exact ho31
 refine Op_ [(1, pt b7),(13, nt (openE VS.zero 0 1))] <| Oq (u := nt (openE VS.zero 0 1)) (v := nt 0) 13 (by rw [kn1]) <| Oen [1, 2] <| V_seq <| Vd1 (acts [8]) none_ [0, 1, 2, 3, 4, 5, 6, 7, 8, 9] fun w38 hk37 he39 K42 _ => ?_
 replace hb14 := hb14.k0 hk37
 replace hK0 := hK0.tn hk37
 replace hl16 := hl16.keep hk37 nk
 replace ho31 := ho31.keep hk37 nk
 have qhb14 := hb14
 refine Gn [3, 4, 5, 6, 7, 8, 9] [1, 2, 16] <| Mr 1 (pt v8) qhb14 <| Gn [7, 8, 9] [1, 2, 17, 20] <| Gc0 30 (.tmp 20) 0 (pt l9) (some 21) qhb14 rfl <| Gk0 (kl 17 #[(.tmp 17),(.tmp 21),(.const (nt 2)),(.const (nt 1)),(.const (nt 1)),(.const (nt 1)),(.const (nt 10))] #[31, 30, 3, 3, 3, 3, 3]) 17 #[pt v8, pt l9, nt 2, nt 1, nt 1, nt 1, nt 10] (some 22) (delegate_spec F30 G11 v8 l9 knS1 knX ([] : List Ci) 2 1 1 1 10 _ ho31 hl16 dis36 (by first | decide | exact kn5)) ?_
 rintro _ w45 ⟨rfl, ⟨F47, F50, ho48, ho51, hfr49, hfr52, hdis53⟩, hk46⟩
 refine ⟨_, rfl, ?_⟩
 have hsz54 := Keep.size hk46
 replace hb14 := hb14.keep hk46 (fun hs => by rcases hs with hs | hs; (have u0 := own35 _ hs; have u1 := lt34 _ hs; omega); (have u0 := own24 _ hs; have u1 := lt25 _ hs; omega))
 replace hK0 := Keep.fresh hK0 hk46 (by intro i hi hs; first | exact hs | (rcases hs with hs | hs; (have u0 := own35 i hs; have u1 := lt34 i hs; omega); (have u0 := own24 i hs; have u1 := lt25 i hs; omega)))
 have own56 : ∀ q, F47 q → w1.heap.size ≤ q ∧ q ≠ b7 := fun q hq => by rcases hfr49 q hq with h | h; (have h1 := own35 q h; have h2 := lt34 q h; omega); omega
 have lt55 := VotT.lt ho48
 have own58 : ∀ q, F50 q → w1.heap.size ≤ q ∧ q ≠ b7 := fun q hq => by rcases hfr52 q hq with h | h; (have h1 := own24 q h; have h2 := lt25 q h; omega); omega
 have lt57 := Led.lt ho51
 replace ho48 : VotT F47 w45 v8 knS2 := by rw [show delS knX knS1 2 1 1 1 10 = knS2 from rfl] at ho48; exact ho48
 replace ho51 : Led F50 w45 l9 knX knC2 := by rw [show delC2 knX ([] : List Ci) knS1 2 1 1 1 10 = knC2 from rfl] at ho51; exact ho51
 refine Gp_ [(1, pt b7),(2, nt 0),(22, nt (delE knX knS1 2 1 1 1 10))] <| Gq_ (u := nt (delE knX knS1 2 1 1 1 10)) (v := nt 0) 22 (by rw [kn2]) <| Gn [] [1, 2, 3] <| GI_end <| X_then <| V_seq <| Vd1 (acts [9]) none_ [0, 1, 2, 3, 4, 5, 6, 7, 8, 9, 10] fun w60 hk59 he61 K64 _ => ?_
 replace hb14 := hb14.k0 hk59
 replace hK0 := hK0.tn hk59
 replace ho48 := ho48.keep hk59 nk
 replace ho51 := ho51.keep hk59 nk
 have qhb14 := hb14
 refine Gn [3, 4, 5, 6, 7, 8, 9, 10] [1, 2, 3, 25] <| Mr 1 (pt v8) qhb14 <| Gn [7, 8, 9, 10] [1, 2, 3, 26, 29] <| Mr 0 (pt l9) qhb14 <| Gn [9, 10] [1, 2, 3, 26, 30, 31] <| Gk0 (kl 18 #[(.tmp 26),(.tmp 30),(.const (nt 1)),(.const (nt 0)),(.tmp 31)] #[31, 30, 3, 3, 23]) 18 #[pt v8, pt l9, nt 1, nt 0, .agg #[nt 1, .bool true, nt 2, nt 10, nt 0, nt 0]] (some 32) (vote_spec F47 F50 v8 l9 knS2 knX knC2 1 0 (Vt.mk 1 true 2 10 0 0) _ ho48 ho51 hdis53 (by first | decide | exact kn5)) ?_
 rintro _ w67 ⟨rfl, ⟨F69, F72, ho70, ho73, hfr71, hfr74, hdis75⟩, hk68⟩
 refine ⟨_, rfl, ?_⟩
 have hsz76 := Keep.size hk68
 replace hb14 := hb14.keep hk68 (fun hs => by rcases hs with hs | hs; (have u0 := own56 _ hs; have u1 := lt55 _ hs; omega); (have u0 := own58 _ hs; have u1 := lt57 _ hs; omega))
 replace hK0 := Keep.fresh hK0 hk68 (by intro i hi hs; first | exact hs | (rcases hs with hs | hs; (have u0 := own56 i hs; have u1 := lt55 i hs; omega); (have u0 := own58 i hs; have u1 := lt57 i hs; omega)))
 have own78 : ∀ q, F69 q → w1.heap.size ≤ q ∧ q ≠ b7 := fun q hq => by rcases hfr71 q hq with h | h; (have h1 := own56 q h; have h2 := lt55 q h; omega); omega
 have lt77 := VotT.lt ho70
 have own80 : ∀ q, F72 q → w1.heap.size ≤ q ∧ q ≠ b7 := fun q hq => by rcases hfr74 q hq with h | h; (have h1 := own58 q h; have h2 := lt57 q h; omega); omega
 have lt79 := Led.lt ho73
 replace ho70 : VotT F69 w67 v8 knS3 := by rw [show voteS knX knS2 1 0 (Vt.mk 1 true 2 10 0 0) = knS3 from rfl] at ho70; exact ho70
 replace ho73 : Led F72 w67 l9 knX knC3 := by rw [show voteC knX knC2 knS2 1 0 (Vt.mk 1 true 2 10 0 0) = knC3 from rfl] at ho73; exact ho73
 refine Gp_ [(1, pt b7),(2, nt 0),(3, nt 0),(32, nt (voteE knX knS2 1 0 (Vt.mk 1 true 2 10 0 0)))] <| Gq_ (u := nt (voteE knX knS2 1 0 (Vt.mk 1 true 2 10 0 0))) (v := nt 0) 32 (by rw [show voteE knX knS2 1 0 (Vt.mk 1 true 2 10 0 0) = 0 from kn3]) <| Gn [] [1, 2, 3, 4] <| GI_end <| X_then <| Vr <| On 10 [39, 42] <| Oc 31 (.tmp 42) 1 (pt v8) (some 43) hb14 rfl <| Ok (kl 20 #[(.tmp 43),(.const (nt 0))] #[31, 3]) 20 #[pt v8, nt 0] (some 44) (tally_spec F69 v8 knS3 0 _ (ho70).1) ?_
 rintro _ w81 ⟨rfl, hk82⟩
 refine ⟨_, rfl, ?_⟩
 have hsz83 := Keep.size hk82
 replace hK0 := hK0.tn hk82
 exact Op_ [(39, .bool true),(44, .agg (Tly.cells (tallyT knS3 0)).toArray)] <| Oq (u := .agg (Tly.cells (tallyT knS3 0)).toArray) (v := .agg #[nt 30, nt 0, nt 20]) 44 (by rw [kn4]; rfl) <| On 13 [39, 44, 45] <| OI_pure (some 46) ((Op.binOp BinOp.eql 43 (Operand.tmp 44) (Operand.tmp 45) 43)) (by kernel_rfl) (pure_eql_same (xs := [nt 30, nt 0, nt 20]) (by kernel_rfl) (by kernel_rfl) (by kernel_rfl) (by kernel_rfl)) <| Oen [0] <| Rr (.bool true) ⟨rfl, hK0⟩
end Go.Al
namespace Go.Al
open Go Go.RowKit Go.Proofs
theorem w64_eq (x : Int) : w64 x = (x + 9223372036854775808) % 18446744073709551616 - 9223372036854775808 := by
  show i64.wrap x = _
  rw [IntKind.wrap_i64]
def ksV : List CK := [.int .i64, .bool, .int .i64, .int .i64, .int .i64, .int .i64]
theorem lift_vt (x : List Value) (h : Flat ksV x) : ∃ y : Vt, y.cells = x := by
  match x, h with
  | [], h => exact h.elim
  | [_], h => exact h.2.elim
  | [_, _], h => exact h.2.2.elim
  | [_, _, _], h => exact h.2.2.2.elim
  | [_, _, _, _], h => exact h.2.2.2.2.elim
  | [_, _, _, _, _], h => exact h.2.2.2.2.2.elim
  | [v1, v2, v3, v4, v5, v6], h =>
    obtain ⟨⟨n1, rfl, _⟩, ⟨n2, rfl⟩, ⟨n3, rfl, _⟩, ⟨n4, rfl, _⟩, ⟨n5, rfl, _⟩, ⟨n6, rfl, _⟩, _⟩ := h
    exact ⟨⟨n1, n2, n3, n4, n5, n6⟩, rfl⟩
  | _ :: _ :: _ :: _ :: _ :: _ :: _ :: _, h => exact h.2.2.2.2.2.2.elim
end Go.Al
namespace Go.Al
open Go Go.RowKit Go.Proofs
structure Av where
  k : Int
  who : Int
  ref : Int
  tr : Int
  st : Int
  to : Int
  lv : Int
  n : Int
  v : Vt
def Av.cells (x : Av) : List Value := nt x.k :: nt x.who :: nt x.ref :: nt x.tr :: nt x.st :: nt x.to :: nt x.lv :: nt x.n :: x.v.cells
theorem Av.len (x : Av) : x.cells.length = 14 := rfl
def ksA : List CK := [.int .i64, .int .i64, .int .i64, .int .i64, .int .i64, .int .i64, .int .i64, .int .i64] ++ ksV
theorem lift_av (x : List Value) (h : Flat ksA x) : ∃ y : Av, y.cells = x := by
  match x, h with
  | [], h => exact h.elim
  | [_], h => exact h.2.elim
  | [_, _], h => exact h.2.2.elim
  | [_, _, _], h => exact h.2.2.2.elim
  | [_, _, _, _], h => exact h.2.2.2.2.elim
  | [_, _, _, _, _], h => exact h.2.2.2.2.2.elim
  | [_, _, _, _, _, _], h => exact h.2.2.2.2.2.2.elim
  | [_, _, _, _, _, _, _], h => exact h.2.2.2.2.2.2.2.elim
  | v1 :: v2 :: v3 :: v4 :: v5 :: v6 :: v7 :: v8 :: l, h =>
    obtain ⟨⟨n1, rfl, _⟩, ⟨n2, rfl, _⟩, ⟨n3, rfl, _⟩, ⟨n4, rfl, _⟩, ⟨n5, rfl, _⟩, ⟨n6, rfl, _⟩, ⟨n7, rfl, _⟩, ⟨n8, rfl, _⟩, hl⟩ := h
    obtain ⟨v, rfl⟩ := lift_vt l hl
    exact ⟨⟨n1, n2, n3, n4, n5, n6, n7, n8, v⟩, rfl⟩
def actS (z : Av) (now : Int) (s : VS) (xs : List Acc) : VS :=
  if z.k = 1 then openS s z.ref z.tr else if z.k = 2 then closeS s z.ref z.st now else if z.k = 3 then voteS xs s z.who z.ref z.v else if z.k = 4 then unvS s z.who z.ref now else if z.k = 5 then delS xs s z.who z.tr z.to z.lv z.n else if z.k = 6 then undS s z.who z.tr now else if z.k = 7 then unlS s z.who z.tr now else s
def actC (z : Av) (now : Int) (s : VS) (xs : List Acc) (cs : List Ci) : List Ci :=
  if z.k = 1 then cs else if z.k = 2 then cs else if z.k = 3 then voteC xs cs s z.who z.ref z.v else if z.k = 4 then cs else if z.k = 5 then delC2 xs cs s z.who z.tr z.to z.lv z.n else if z.k = 6 then cs else if z.k = 7 then unlC cs s z.who z.tr now else cs
def actX (z : Av) (xs : List Acc) (cs : List Ci) : List Acc :=
  if z.k = 1 then xs else if z.k = 2 then xs else if z.k = 3 then xs else if z.k = 4 then xs else if z.k = 5 then xs else if z.k = 6 then xs else if z.k = 7 then xs else if z.k = 8 then xs else transX xs cs z.who z.to z.n
def actN (z : Av) (now : Int) : Int :=
  if z.k = 1 then now else if z.k = 2 then now else if z.k = 3 then now else if z.k = 4 then now else if z.k = 5 then now else if z.k = 6 then now else if z.k = 7 then now else if z.k = 8 then imin 1073741824 (i64.wrap (now + bAnd z.n 255)) else now
section
variable {z : Av} {now : Int} {s : VS} {xs : List Acc} {cs : List Ci}
theorem act_1 (h : z.k = 1) : actS z now s xs = openS s z.ref z.tr ∧ actX z xs cs = xs ∧ actC z now s xs cs = cs ∧ actN z now = now := by
  unfold actS actX actC actN; rw [h]; exact ⟨rfl, rfl, rfl, rfl⟩
theorem act_2 (h : z.k = 2) : actS z now s xs = closeS s z.ref z.st now ∧ actX z xs cs = xs ∧ actC z now s xs cs = cs ∧ actN z now = now := by
  unfold actS actX actC actN; rw [h]; exact ⟨rfl, rfl, rfl, rfl⟩
theorem act_3 (h : z.k = 3) : actS z now s xs = voteS xs s z.who z.ref z.v ∧ actX z xs cs = xs ∧ actC z now s xs cs = voteC xs cs s z.who z.ref z.v ∧ actN z now = now := by
  unfold actS actX actC actN; rw [h]; exact ⟨rfl, rfl, rfl, rfl⟩
theorem act_4 (h : z.k = 4) : actS z now s xs = unvS s z.who z.ref now ∧ actX z xs cs = xs ∧ actC z now s xs cs = cs ∧ actN z now = now := by
  unfold actS actX actC actN; rw [h]; exact ⟨rfl, rfl, rfl, rfl⟩
theorem act_5 (h : z.k = 5) : actS z now s xs = delS xs s z.who z.tr z.to z.lv z.n ∧ actX z xs cs = xs ∧ actC z now s xs cs = delC2 xs cs s z.who z.tr z.to z.lv z.n ∧ actN z now = now := by
  unfold actS actX actC actN; rw [h]; exact ⟨rfl, rfl, rfl, rfl⟩
theorem act_6 (h : z.k = 6) : actS z now s xs = undS s z.who z.tr now ∧ actX z xs cs = xs ∧ actC z now s xs cs = cs ∧ actN z now = now := by
  unfold actS actX actC actN; rw [h]; exact ⟨rfl, rfl, rfl, rfl⟩
theorem act_7 (h : z.k = 7) : actS z now s xs = unlS s z.who z.tr now ∧ actX z xs cs = xs ∧ actC z now s xs cs = unlC cs s z.who z.tr now ∧ actN z now = now := by
  unfold actS actX actC actN; rw [h]; exact ⟨rfl, rfl, rfl, rfl⟩
theorem act_8 (h : z.k = 8) : actS z now s xs = s ∧ actX z xs cs = xs ∧ actC z now s xs cs = cs ∧ actN z now = imin 1073741824 (i64.wrap (now + bAnd z.n 255)) := by
  unfold actS actX actC actN; rw [h]; exact ⟨rfl, rfl, rfl, rfl⟩
theorem act_9 (h1 : ¬ z.k = 1) (h2 : ¬ z.k = 2) (h3 : ¬ z.k = 3) (h4 : ¬ z.k = 4) (h5 : ¬ z.k = 5) (h6 : ¬ z.k = 6) (h7 : ¬ z.k = 7) (h8 : ¬ z.k = 8) : actS z now s xs = s ∧ actX z xs cs = transX xs cs z.who z.to z.n ∧ actC z now s xs cs = cs ∧ actN z now = now := by
  unfold actS actX actC actN; simp only [if_neg h1, if_neg h2, if_neg h3, if_neg h4, if_neg h5, if_neg h6, if_neg h7, if_neg h8]; exact ⟨trivial, trivial, trivial, trivial⟩
end
set_option maxHeartbeats 1000000 in
theorem act_pl (B : Nat → Prop) (b : Nat) (s : VS) (xs : List Acc) (cs : List Ci) (now : Int) (z : Av) (w : World) (h : Pl B w b s xs cs now) (hmax : cs.length < 90000) : Calls Tryz.prog 35 #[pt b, .agg z.cells.toArray] w fun e w' => e = .returned (.bool true) ∧ (∃ B', Pl B' w' b (actS z now s xs) (actX z xs cs) (actC z now s xs cs) (actN z now) ∧ (∀ q, B' q → B q ∨ w.heap.size ≤ q)) ∧ Keep B w w' := by
 obtain ⟨hBlt, hBb, F, G, H, I, v, l, x, y, hpl⟩ := h
 have hb := hpl.blk
 have hblt := hb.lt
 have hv := hpl.hv
 have hoF : ∀ q, F q → q ≠ b := fun q hq => (hpl.inF q hq).2
 have ltF := VotT.lt hv
 have hrF : ∀ q, F q → B q ∨ w.heap.size ≤ q := fun q hq => .inl (hpl.inF q hq).1
 have hvlt := ltF _ (VotT.at_ hv)
 have hvb := hoF _ (VotT.at_ hv)
 have hl := hpl.hl
 have hoG : ∀ q, G q → q ≠ b := fun q hq => (hpl.inG q hq).2
 have ltG := Led.lt hl
 have hrG : ∀ q, G q → B q ∨ w.heap.size ≤ q := fun q hq => .inl (hpl.inG q hq).1
 have hllt := ltG _ (Led.at_ hl)
 have hlb := hoG _ (Led.at_ hl)
 have hx := hpl.hx
 have hoH : ∀ q, H q → q ≠ b := fun q hq => (hpl.inH q hq).2
 have ltH := DLd.lt hx
 have hrH : ∀ q, H q → B q ∨ w.heap.size ≤ q := fun q hq => .inl (hpl.inH q hq).1
 have hxlt := ltH _ (DLd.at_ hx)
 have hxb := hoH _ (DLd.at_ hx)
 have hy := hpl.hy
 have hoI : ∀ q, I q → q ≠ b := fun q hq => (hpl.inI q hq).2
 have ltI := DVt.lt hy
 have hrI : ∀ q, I q → B q ∨ w.heap.size ≤ q := fun q hq => .inl (hpl.inI q hq).1
 have hylt := ltI _ (DVt.at_ hy)
 have hyb := hoI _ (DVt.at_ hy)
 have hK0 := Keep.refl B w
 refine eV ?_
 refine Vr <| OI_box 60 (.tmp 1) (.agg (Av.cells z).toArray) (Av.cells z) (some 3) (by kernel_rfl) (by kernel_rfl) rfl ?_
 intro b1 w1 e1 hb1 k1 z1
 have hsz2 := Keep.size k1
 replace hb := hb.k0 k1
 replace hv := hv.keep k1 nk
 replace hl := hl.keep k1 nk
 replace hx := DLd.keep hx k1 nk
 replace hy := DVt.keep hy k1 nk
 replace hK0 := hK0.tn k1
 have hb1lt := hb1.lt
 refine On 2 [0, 3] <| Oe <| V_seq <| Vr <| On 1 [0, 3, 5] <| Lr 0 (nt z.k) hb1 <| Oe <| V_block <| Vn [0, 3, 6, 7] <| Vi (z.k = 1) (fun hc3 => ?_) (fun hc3 => ?_)
 ·
  refine V_seq <| Vd1 (acts [8, 17]) (fun q => q ≠ b1 ∧ q ≠ b) [0, 1, 2, 3, 4, 5, 6, 7, 8, 9, 10, 11, 12, 13, 14, 15, 16, 17, 18, 19] fun w5 hk4 he6 K9 _ => ?_
  replace hb := hb.k0 hk4
  replace hb1 := hb1.k0 hk4
  replace hv := hv.keep hk4 nk
  replace hl := hl.keep hk4 nk
  replace hx := DLd.keep hx hk4 nk
  replace hy := DVt.keep hy hk4 nk
  replace hK0 := hK0.tn hk4
  have qhb := hb
  have qhb1 := hb1
  refine Gn [3, 4, 5, 6, 7, 8, 9, 10, 11, 12, 13, 14, 15, 16, 17, 18, 19] [0, 3, 11] <| Mc 1 (pt v) qhb nb2 rfl <| Gn [5, 6, 7, 8, 9, 10, 11, 12, 13, 14, 15, 16, 17, 18, 19] [0, 3, 12, 13] <| Mc 2 (nt z.ref) qhb1 nb1 rfl <| Gn [7, 8, 9, 10, 11, 12, 13, 14, 15, 16, 17, 18, 19] [0, 3, 12, 14, 15] <| Mc 3 (nt z.tr) qhb1 nb1 rfl <| Hg (open_specT F v s z.ref z.tr _ hv) ?_
  rintro _ w10 ⟨rfl, ⟨F12, ho13, hfr14⟩, hk11⟩
  have K15 := Keep.fresh K9 hk11 (by intro i hi hs; have h1 := hoF i hs; have h2 := ltF i hs; show i ≠ b1 ∧ i ≠ b; omega)
  refine ⟨_, rfl, K15, ?_⟩
  have hzK15 := Keep.size K15
  have hsz16 := Keep.size hk11
  replace hb := hb.keep hk11 (fun hs => by have h1 := hoF _ hs; have h2 := ltF _ hs; omega)
  replace hl := hl.keep hk11 (fun q hq hs => hpl.fg q hs hq)
  replace hx := DLd.keep hx hk11 (fun q hq hs => hpl.fh q hs hq)
  replace hy := DVt.keep hy hk11 (fun q hq hs => hpl.fi q hs hq)
  replace hK0 := frr hK0 hk11 hrF
  have own18 : ∀ q, F12 q → q ≠ b ∧ q ≠ b ∧ q ≠ b1 := fun q hq => by rcases hfr14 q hq with h | h; (have h1 := hoF q h; have h2 := ltF q h; omega); omega
  have lt17 := VotT.lt ho13
  have rel19 : ∀ q, F12 q → B q ∨ w.heap.size ≤ q := fun q hq => by rcases hfr14 q hq with h | h; exact hrF q h; exact .inr (by omega)
  have dis20 : ∀ q, F12 q → ¬ G q := fun q h1 h2 => by rcases hfr14 q h1 with h | h; exact hpl.fg q h h2; (have h4 := ltG q h2; omega)
  have dis21 : ∀ q, F12 q → ¬ H q := fun q h1 h2 => by rcases hfr14 q h1 with h | h; exact hpl.fh q h h2; (have h4 := ltH q h2; omega)
  have dis22 : ∀ q, F12 q → ¬ I q := fun q h1 h2 => by rcases hfr14 q h1 with h | h; exact hpl.fi q h h2; (have h4 := ltI q h2; omega)
  refine Gn [12, 13, 14, 15, 16, 17, 18, 19] [3, 17, 20] <| Mc 3 (pt y) qhb nb2 rfl <| Gn [14, 15, 16, 17, 18, 19] [3, 17, 21, 22] <| Mc 2 (nt z.ref) qhb1 nb1 rfl <| Gn [16, 17, 18, 19] [17, 21, 23, 24] <| Mc 3 (nt z.tr) qhb1 nb1 rfl <| Jg (dopn_spec I y s z.ref z.tr _ hy) ?_
  rintro _ w23 ⟨rfl, ⟨F25, ho26, hfr27⟩, hk24⟩
  refine ⟨_, rfl, ?_⟩
  have hsz28 := Keep.size hk24
  replace hb := hb.keep hk24 (fun hs => by have h1 := hoI _ hs; have h2 := ltI _ hs; omega)
  replace hl := hl.keep hk24 (fun q hq hs => hpl.gi q hq hs)
  replace hx := DLd.keep hx hk24 (fun q hq hs => hpl.hi q hq hs)
  replace hK0 := frr hK0 hk24 hrI
  replace ho13 := ho13.keep hk24 (fun q hq hs => dis22 q hq hs)
  have own30 : ∀ q, F25 q → q ≠ b ∧ q ≠ b ∧ q ≠ b1 := fun q hq => by rcases hfr27 q hq with h | h; (have h1 := hoI q h; have h2 := ltI q h; omega); omega
  have lt29 := DVt.lt ho26
  have rel31 : ∀ q, F25 q → B q ∨ w.heap.size ≤ q := fun q hq => by rcases hfr27 q hq with h | h; exact hrI q h; exact .inr (by omega)
  have dis32 : ∀ q, F25 q → ¬ G q := fun q h1 h2 => by rcases hfr27 q h1 with h | h; exact hpl.gi q h2 h; (have h4 := ltG q h2; omega)
  have dis33 : ∀ q, F25 q → ¬ H q := fun q h1 h2 => by rcases hfr27 q h1 with h | h; exact hpl.hi q h2 h; (have h4 := ltH q h2; omega)
  have dis34 : ∀ q, F25 q → ¬ F12 q := fun q h1 h2 => by rcases hfr27 q h1 with h | h; exact dis22 q h2 h; (have h4 := lt17 q h2; omega)
  refine Gn [] [4] <| GI_end <| X_then <| V_ret <| X_ret_block <| X_ret_then ?_
  obtain ⟨e1, e2, e3, e4⟩ := act_1 (now := now) (s := s) (xs := xs) (cs := cs) hc3
  rw [e1, e2, e3, e4]
  exact Xr (.bool (decide (openE s z.ref z.tr = openE s z.ref z.tr))) ⟨by simp, (PlX.pack hb ho13 hl hx ho26 dis20 dis21 (fun q h1 h2 => dis34 q h2 h1) hpl.gh (fun q h1 h2 => dis32 q h2 h1) (fun q h1 h2 => dis33 q h2 h1) (fun q h => (own18 q h).1) hoG hoH (fun q h => (own30 q h).1) hBb rel19 hrG hrH rel31), hK0⟩
 refine Vn [0, 3, 6, 28] <| Vi (z.k = 2) (fun hc35 => ?_) (fun hc35 => ?_)
 ·
  refine V_seq <| Vd1 (acts [12, 25]) (fun q => q ≠ b1 ∧ q ≠ b) [0, 1, 2, 3, 4, 5, 6, 7, 8, 9, 10, 11, 12, 13, 14, 15, 16, 17, 18, 19, 20, 21, 22, 23, 24, 25, 26, 27] fun w37 hk36 he38 K41 _ => ?_
  replace hb := hb.k0 hk36
  replace hb1 := hb1.k0 hk36
  replace hv := hv.keep hk36 nk
  replace hl := hl.keep hk36 nk
  replace hx := DLd.keep hx hk36 nk
  replace hy := DVt.keep hy hk36 nk
  replace hK0 := hK0.tn hk36
  have qhb := hb
  have qhb1 := hb1
  refine Gn [3, 4, 5, 6, 7, 8, 9, 10, 11, 12, 13, 14, 15, 16, 17, 18, 19, 20, 21, 22, 23, 24, 25, 26, 27] [0, 3, 32] <| Mc 1 (pt v) qhb nb2 rfl <| Gn [5, 6, 7, 8, 9, 10, 11, 12, 13, 14, 15, 16, 17, 18, 19, 20, 21, 22, 23, 24, 25, 26, 27] [0, 3, 33, 34] <| Mc 2 (nt z.ref) qhb1 nb1 rfl <| Gn [7, 8, 9, 10, 11, 12, 13, 14, 15, 16, 17, 18, 19, 20, 21, 22, 23, 24, 25, 26, 27] [0, 3, 33, 35, 36] <| Mc 4 (nt z.st) qhb1 nb1 rfl <| Gn [11, 12, 13, 14, 15, 16, 17, 18, 19, 20, 21, 22, 23, 24, 25, 26, 27] [0, 3, 33, 35, 37, 40] <| Mc 4 (nt now) qhb nb2 rfl <| Hg (close_specT F v s z.ref z.st now _ hv) ?_
  rintro _ w42 ⟨rfl, ⟨F44, ho45, hfr46⟩, hk43⟩
  have K47 := Keep.fresh K41 hk43 (by intro i hi hs; have h1 := hoF i hs; have h2 := ltF i hs; show i ≠ b1 ∧ i ≠ b; omega)
  refine ⟨_, rfl, K47, ?_⟩
  have hzK47 := Keep.size K47
  have hsz48 := Keep.size hk43
  replace hb := hb.keep hk43 (fun hs => by have h1 := hoF _ hs; have h2 := ltF _ hs; omega)
  replace hl := hl.keep hk43 (fun q hq hs => hpl.fg q hs hq)
  replace hx := DLd.keep hx hk43 (fun q hq hs => hpl.fh q hs hq)
  replace hy := DVt.keep hy hk43 (fun q hq hs => hpl.fi q hs hq)
  replace hK0 := frr hK0 hk43 hrF
  have own50 : ∀ q, F44 q → q ≠ b ∧ q ≠ b ∧ q ≠ b1 := fun q hq => by rcases hfr46 q hq with h | h; (have h1 := hoF q h; have h2 := ltF q h; omega); omega
  have lt49 := VotT.lt ho45
  have rel51 : ∀ q, F44 q → B q ∨ w.heap.size ≤ q := fun q hq => by rcases hfr46 q hq with h | h; exact hrF q h; exact .inr (by omega)
  have dis52 : ∀ q, F44 q → ¬ G q := fun q h1 h2 => by rcases hfr46 q h1 with h | h; exact hpl.fg q h h2; (have h4 := ltG q h2; omega)
  have dis53 : ∀ q, F44 q → ¬ H q := fun q h1 h2 => by rcases hfr46 q h1 with h | h; exact hpl.fh q h h2; (have h4 := ltH q h2; omega)
  have dis54 : ∀ q, F44 q → ¬ I q := fun q h1 h2 => by rcases hfr46 q h1 with h | h; exact hpl.fi q h h2; (have h4 := ltI q h2; omega)
  refine Gn [16, 17, 18, 19, 20, 21, 22, 23, 24, 25, 26, 27] [0, 3, 42, 45] <| Mc 3 (pt y) qhb nb2 rfl <| Gn [18, 19, 20, 21, 22, 23, 24, 25, 26, 27] [0, 3, 42, 46, 47] <| Mc 2 (nt z.ref) qhb1 nb1 rfl <| Gn [20, 21, 22, 23, 24, 25, 26, 27] [0, 42, 46, 48, 49] <| Mc 4 (nt z.st) qhb1 nb1 rfl <| Gn [24, 25, 26, 27] [42, 46, 48, 50, 53] <| Mc 4 (nt now) qhb nb2 rfl <| Jg (dcls_spec I y s z.ref z.st now _ hy) ?_
  rintro _ w55 ⟨rfl, ⟨F57, ho58, hfr59⟩, hk56⟩
  refine ⟨_, rfl, ?_⟩
  have hsz60 := Keep.size hk56
  replace hb := hb.keep hk56 (fun hs => by have h1 := hoI _ hs; have h2 := ltI _ hs; omega)
  replace hl := hl.keep hk56 (fun q hq hs => hpl.gi q hq hs)
  replace hx := DLd.keep hx hk56 (fun q hq hs => hpl.hi q hq hs)
  replace hK0 := frr hK0 hk56 hrI
  replace ho45 := ho45.keep hk56 (fun q hq hs => dis54 q hq hs)
  have own62 : ∀ q, F57 q → q ≠ b ∧ q ≠ b ∧ q ≠ b1 := fun q hq => by rcases hfr59 q hq with h | h; (have h1 := hoI q h; have h2 := ltI q h; omega); omega
  have lt61 := DVt.lt ho58
  have rel63 : ∀ q, F57 q → B q ∨ w.heap.size ≤ q := fun q hq => by rcases hfr59 q hq with h | h; exact hrI q h; exact .inr (by omega)
  have dis64 : ∀ q, F57 q → ¬ G q := fun q h1 h2 => by rcases hfr59 q h1 with h | h; exact hpl.gi q h2 h; (have h4 := ltG q h2; omega)
  have dis65 : ∀ q, F57 q → ¬ H q := fun q h1 h2 => by rcases hfr59 q h1 with h | h; exact hpl.hi q h2 h; (have h4 := ltH q h2; omega)
  have dis66 : ∀ q, F57 q → ¬ F44 q := fun q h1 h2 => by rcases hfr59 q h1 with h | h; exact dis54 q h2 h; (have h4 := lt49 q h2; omega)
  refine Gn [] [4] <| GI_end <| X_then <| V_ret <| X_ret_block <| X_ret_then ?_
  obtain ⟨e1, e2, e3, e4⟩ := act_2 (now := now) (s := s) (xs := xs) (cs := cs) hc35
  rw [e1, e2, e3, e4]
  exact Xr (.bool (decide (closeE s z.ref z.st = closeE s z.ref z.st))) ⟨by simp, (PlX.pack hb ho45 hl hx ho58 dis52 dis53 (fun q h1 h2 => dis66 q h2 h1) hpl.gh (fun q h1 h2 => dis64 q h2 h1) (fun q h1 h2 => dis65 q h2 h1) (fun q h => (own50 q h).1) hoG hoH (fun q h => (own62 q h).1) hBb rel51 hrG hrH rel63), hK0⟩
 refine Vn [0, 3, 6, 57] <| Vi (z.k = 3) (fun hc67 => ?_) (fun hc67 => ?_)
 ·
  refine V_seq <| Vd1 (acts [14, 29]) (fun q => q ≠ b1 ∧ q ≠ b) [0, 1, 2, 3, 4, 5, 6, 7, 8, 9, 10, 11, 12, 13, 14, 15, 16, 17, 18, 19, 20, 21, 22, 23, 24, 25, 26, 27, 28, 29, 30, 31] fun w69 hk68 he70 K73 _ => ?_
  replace hb := hb.k0 hk68
  replace hb1 := hb1.k0 hk68
  replace hv := hv.keep hk68 nk
  replace hl := hl.keep hk68 nk
  replace hx := DLd.keep hx hk68 nk
  replace hy := DVt.keep hy hk68 nk
  replace hK0 := hK0.tn hk68
  have qhb := hb
  have qhb1 := hb1
  refine Gn [3, 4, 5, 6, 7, 8, 9, 10, 11, 12, 13, 14, 15, 16, 17, 18, 19, 20, 21, 22, 23, 24, 25, 26, 27, 28, 29, 30, 31] [0, 3, 61] <| Mc 1 (pt v) qhb nb2 rfl <| Gn [7, 8, 9, 10, 11, 12, 13, 14, 15, 16, 17, 18, 19, 20, 21, 22, 23, 24, 25, 26, 27, 28, 29, 30, 31] [0, 3, 62, 65] <| Mc 0 (pt l) qhb nb2 rfl <| Gn [9, 10, 11, 12, 13, 14, 15, 16, 17, 18, 19, 20, 21, 22, 23, 24, 25, 26, 27, 28, 29, 30, 31] [0, 3, 62, 66, 67] <| Mc 1 (nt z.who) qhb1 nb1 rfl <| Gn [11, 12, 13, 14, 15, 16, 17, 18, 19, 20, 21, 22, 23, 24, 25, 26, 27, 28, 29, 30, 31] [0, 3, 62, 66, 68, 69] <| Mc 2 (nt z.ref) qhb1 nb1 rfl <| Gn [13, 14, 15, 16, 17, 18, 19, 20, 21, 22, 23, 24, 25, 26, 27, 28, 29, 30, 31] [0, 3, 62, 66, 68, 70, 71] <| Ma 8 [nt z.v.kind, .bool z.v.aye, nt z.v.level, nt z.v.a, nt z.v.n, nt z.v.s] 6 qhb1 nb1 rfl rfl <| Hg (vote_spec F G v l s xs cs z.who z.ref z.v _ hv hl hpl.fg (by omega)) ?_
  rintro _ w74 ⟨rfl, ⟨F76, F79, ho77, ho80, hfr78, hfr81, hdis82⟩, hk75⟩
  have K83 := Keep.fresh K73 hk75 (by intro i hi hs; rcases hs with hs | hs; (have u0 := hoF i hs; have u1 := ltF i hs; show i ≠ b1 ∧ i ≠ b; omega); (have u0 := hoG i hs; have u1 := ltG i hs; show i ≠ b1 ∧ i ≠ b; omega))
  refine ⟨_, rfl, K83, ?_⟩
  have hzK83 := Keep.size K83
  have hsz84 := Keep.size hk75
  replace hb := hb.keep hk75 (fun hs => by rcases hs with hs | hs; (have u0 := hoF _ hs; have u1 := ltF _ hs; omega); (have u0 := hoG _ hs; have u1 := ltG _ hs; omega))
  replace hx := DLd.keep hx hk75 (fun q hq hs => by rcases hs with hs | hs; exact hpl.fh q hs hq; exact hpl.gh q hs hq)
  replace hy := DVt.keep hy hk75 (fun q hq hs => by rcases hs with hs | hs; exact hpl.fi q hs hq; exact hpl.gi q hs hq)
  replace hK0 := Keep.fresh hK0 hk75 (fun i hi hs => by rcases hs with hs | hs; (rcases hrF i hs with h | h; exact h; (exfalso; omega)); (rcases hrG i hs with h | h; exact h; (exfalso; omega)))
  have own86 : ∀ q, F76 q → q ≠ b ∧ q ≠ b ∧ q ≠ b1 := fun q hq => by rcases hfr78 q hq with h | h; (have h1 := hoF q h; have h2 := ltF q h; omega); omega
  have lt85 := VotT.lt ho77
  have rel87 : ∀ q, F76 q → B q ∨ w.heap.size ≤ q := fun q hq => by rcases hfr78 q hq with h | h; exact hrF q h; exact .inr (by omega)
  have dis88 : ∀ q, F76 q → ¬ H q := fun q h1 h2 => by rcases hfr78 q h1 with h | h; exact hpl.fh q h h2; (have h4 := ltH q h2; omega)
  have dis89 : ∀ q, F76 q → ¬ I q := fun q h1 h2 => by rcases hfr78 q h1 with h | h; exact hpl.fi q h h2; (have h4 := ltI q h2; omega)
  have own91 : ∀ q, F79 q → q ≠ b ∧ q ≠ b ∧ q ≠ b1 := fun q hq => by rcases hfr81 q hq with h | h; (have h1 := hoG q h; have h2 := ltG q h; omega); omega
  have lt90 := Led.lt ho80
  have rel92 : ∀ q, F79 q → B q ∨ w.heap.size ≤ q := fun q hq => by rcases hfr81 q hq with h | h; exact hrG q h; exact .inr (by omega)
  have dis93 : ∀ q, F79 q → ¬ H q := fun q h1 h2 => by rcases hfr81 q h1 with h | h; exact hpl.gh q h h2; (have h4 := ltH q h2; omega)
  have dis94 : ∀ q, F79 q → ¬ I q := fun q h1 h2 => by rcases hfr81 q h1 with h | h; exact hpl.gi q h h2; (have h4 := ltI q h2; omega)
  refine Gn [18, 19, 20, 21, 22, 23, 24, 25, 26, 27, 28, 29, 30, 31] [0, 3, 73, 76] <| Mc 3 (pt y) qhb nb2 rfl <| Gn [22, 23, 24, 25, 26, 27, 28, 29, 30, 31] [3, 73, 77, 80] <| Mc 2 (pt x) qhb nb2 rfl <| Gn [24, 25, 26, 27, 28, 29, 30, 31] [3, 73, 77, 81, 82] <| Mc 1 (nt z.who) qhb1 nb1 rfl <| Gn [26, 27, 28, 29, 30, 31] [3, 73, 77, 81, 83, 84] <| Mc 2 (nt z.ref) qhb1 nb1 rfl <| Gn [28, 29, 30, 31] [73, 77, 81, 83, 85, 86] <| Ma 8 [nt z.v.kind, .bool z.v.aye, nt z.v.level, nt z.v.a, nt z.v.n, nt z.v.s] 6 qhb1 nb1 rfl rfl <| Jg (dvote_spec I H y x s xs cs z.who z.ref z.v _ hy hx (fun q h1 h2 => hpl.hi q h2 h1) (by omega)) ?_
  rintro _ w95 ⟨rfl, ⟨F97, F100, ho98, ho101, hfr99, hfr102, hdis103⟩, hk96⟩
  refine ⟨_, rfl, ?_⟩
  have hsz104 := Keep.size hk96
  replace hb := hb.keep hk96 (fun hs => by rcases hs with hs | hs; (have u0 := hoI _ hs; have u1 := ltI _ hs; omega); (have u0 := hoH _ hs; have u1 := ltH _ hs; omega))
  replace hK0 := Keep.fresh hK0 hk96 (fun i hi hs => by rcases hs with hs | hs; (rcases hrI i hs with h | h; exact h; (exfalso; omega)); (rcases hrH i hs with h | h; exact h; (exfalso; omega)))
  replace ho77 := ho77.keep hk96 (fun q hq hs => by rcases hs with hs | hs; exact dis89 q hq hs; exact dis88 q hq hs)
  replace ho80 := ho80.keep hk96 (fun q hq hs => by rcases hs with hs | hs; exact dis94 q hq hs; exact dis93 q hq hs)
  have own106 : ∀ q, F97 q → q ≠ b ∧ q ≠ b ∧ q ≠ b1 := fun q hq => by rcases hfr99 q hq with h | h; (have h1 := hoI q h; have h2 := ltI q h; omega); omega
  have lt105 := DVt.lt ho98
  have rel107 : ∀ q, F97 q → B q ∨ w.heap.size ≤ q := fun q hq => by rcases hfr99 q hq with h | h; exact hrI q h; exact .inr (by omega)
  have dis108 : ∀ q, F97 q → ¬ F76 q := fun q h1 h2 => by rcases hfr99 q h1 with h | h; exact dis89 q h2 h; (have h4 := lt85 q h2; omega)
  have dis109 : ∀ q, F97 q → ¬ F79 q := fun q h1 h2 => by rcases hfr99 q h1 with h | h; exact dis94 q h2 h; (have h4 := lt90 q h2; omega)
  have own111 : ∀ q, F100 q → q ≠ b ∧ q ≠ b ∧ q ≠ b1 := fun q hq => by rcases hfr102 q hq with h | h; (have h1 := hoH q h; have h2 := ltH q h; omega); omega
  have lt110 := DLd.lt ho101
  have rel112 : ∀ q, F100 q → B q ∨ w.heap.size ≤ q := fun q hq => by rcases hfr102 q hq with h | h; exact hrH q h; exact .inr (by omega)
  have dis113 : ∀ q, F100 q → ¬ F76 q := fun q h1 h2 => by rcases hfr102 q h1 with h | h; exact dis88 q h2 h; (have h4 := lt85 q h2; omega)
  have dis114 : ∀ q, F100 q → ¬ F79 q := fun q h1 h2 => by rcases hfr102 q h1 with h | h; exact dis93 q h2 h; (have h4 := lt90 q h2; omega)
  refine Gn [] [4] <| GI_end <| X_then <| V_ret <| X_ret_block <| X_ret_then ?_
  obtain ⟨e1, e2, e3, e4⟩ := act_3 (now := now) (s := s) (xs := xs) (cs := cs) hc67
  rw [e1, e2, e3, e4]
  exact Xr (.bool (decide (voteE xs s z.who z.ref z.v = voteE xs s z.who z.ref z.v))) ⟨by simp, (PlX.pack hb ho77 ho80 ho101 ho98 hdis82 (fun q h1 h2 => dis113 q h2 h1) (fun q h1 h2 => dis108 q h2 h1) (fun q h1 h2 => dis114 q h2 h1) (fun q h1 h2 => dis109 q h2 h1) (fun q h1 h2 => hdis103 q h2 h1) (fun q h => (own86 q h).1) (fun q h => (own91 q h).1) (fun q h => (own111 q h).1) (fun q h => (own106 q h).1) hBb rel87 rel92 rel112 rel107), hK0⟩
 refine Vn [0, 3, 6, 90] <| Vi (z.k = 4) (fun hc115 => ?_) (fun hc115 => ?_)
 ·
  refine V_seq <| Vd1 (acts [12, 25]) (fun q => q ≠ b1 ∧ q ≠ b) [0, 1, 2, 3, 4, 5, 6, 7, 8, 9, 10, 11, 12, 13, 14, 15, 16, 17, 18, 19, 20, 21, 22, 23, 24, 25, 26, 27] fun w117 hk116 he118 K121 _ => ?_
  replace hb := hb.k0 hk116
  replace hb1 := hb1.k0 hk116
  replace hv := hv.keep hk116 nk
  replace hl := hl.keep hk116 nk
  replace hx := DLd.keep hx hk116 nk
  replace hy := DVt.keep hy hk116 nk
  replace hK0 := hK0.tn hk116
  have qhb := hb
  have qhb1 := hb1
  refine Gn [3, 4, 5, 6, 7, 8, 9, 10, 11, 12, 13, 14, 15, 16, 17, 18, 19, 20, 21, 22, 23, 24, 25, 26, 27] [0, 3, 94] <| Mc 1 (pt v) qhb nb2 rfl <| Gn [5, 6, 7, 8, 9, 10, 11, 12, 13, 14, 15, 16, 17, 18, 19, 20, 21, 22, 23, 24, 25, 26, 27] [0, 3, 95, 96] <| Mc 1 (nt z.who) qhb1 nb1 rfl <| Gn [7, 8, 9, 10, 11, 12, 13, 14, 15, 16, 17, 18, 19, 20, 21, 22, 23, 24, 25, 26, 27] [0, 3, 95, 97, 98] <| Mc 2 (nt z.ref) qhb1 nb1 rfl <| Gn [11, 12, 13, 14, 15, 16, 17, 18, 19, 20, 21, 22, 23, 24, 25, 26, 27] [0, 3, 95, 97, 99, 102] <| Mc 4 (nt now) qhb nb2 rfl <| Hg (unvote_specT F v s z.who z.ref now _ hv) ?_
  rintro _ w122 ⟨rfl, ⟨F124, ho125, hfr126⟩, hk123⟩
  have K127 := Keep.fresh K121 hk123 (by intro i hi hs; have h1 := hoF i hs; have h2 := ltF i hs; show i ≠ b1 ∧ i ≠ b; omega)
  refine ⟨_, rfl, K127, ?_⟩
  have hzK127 := Keep.size K127
  have hsz128 := Keep.size hk123
  replace hb := hb.keep hk123 (fun hs => by have h1 := hoF _ hs; have h2 := ltF _ hs; omega)
  replace hl := hl.keep hk123 (fun q hq hs => hpl.fg q hs hq)
  replace hx := DLd.keep hx hk123 (fun q hq hs => hpl.fh q hs hq)
  replace hy := DVt.keep hy hk123 (fun q hq hs => hpl.fi q hs hq)
  replace hK0 := frr hK0 hk123 hrF
  have own130 : ∀ q, F124 q → q ≠ b ∧ q ≠ b ∧ q ≠ b1 := fun q hq => by rcases hfr126 q hq with h | h; (have h1 := hoF q h; have h2 := ltF q h; omega); omega
  have lt129 := VotT.lt ho125
  have rel131 : ∀ q, F124 q → B q ∨ w.heap.size ≤ q := fun q hq => by rcases hfr126 q hq with h | h; exact hrF q h; exact .inr (by omega)
  have dis132 : ∀ q, F124 q → ¬ G q := fun q h1 h2 => by rcases hfr126 q h1 with h | h; exact hpl.fg q h h2; (have h4 := ltG q h2; omega)
  have dis133 : ∀ q, F124 q → ¬ H q := fun q h1 h2 => by rcases hfr126 q h1 with h | h; exact hpl.fh q h h2; (have h4 := ltH q h2; omega)
  have dis134 : ∀ q, F124 q → ¬ I q := fun q h1 h2 => by rcases hfr126 q h1 with h | h; exact hpl.fi q h h2; (have h4 := ltI q h2; omega)
  refine Gn [16, 17, 18, 19, 20, 21, 22, 23, 24, 25, 26, 27] [0, 3, 104, 107] <| Mc 3 (pt y) qhb nb2 rfl <| Gn [18, 19, 20, 21, 22, 23, 24, 25, 26, 27] [0, 3, 104, 108, 109] <| Mc 1 (nt z.who) qhb1 nb1 rfl <| Gn [20, 21, 22, 23, 24, 25, 26, 27] [0, 104, 108, 110, 111] <| Mc 2 (nt z.ref) qhb1 nb1 rfl <| Gn [24, 25, 26, 27] [104, 108, 110, 112, 115] <| Mc 4 (nt now) qhb nb2 rfl <| Jg (dunvote_spec I y s z.who z.ref now _ hy) ?_
  rintro _ w135 ⟨rfl, ⟨F137, ho138, hfr139⟩, hk136⟩
  refine ⟨_, rfl, ?_⟩
  have hsz140 := Keep.size hk136
  replace hb := hb.keep hk136 (fun hs => by have h1 := hoI _ hs; have h2 := ltI _ hs; omega)
  replace hl := hl.keep hk136 (fun q hq hs => hpl.gi q hq hs)
  replace hx := DLd.keep hx hk136 (fun q hq hs => hpl.hi q hq hs)
  replace hK0 := frr hK0 hk136 hrI
  replace ho125 := ho125.keep hk136 (fun q hq hs => dis134 q hq hs)
  have own142 : ∀ q, F137 q → q ≠ b ∧ q ≠ b ∧ q ≠ b1 := fun q hq => by rcases hfr139 q hq with h | h; (have h1 := hoI q h; have h2 := ltI q h; omega); omega
  have lt141 := DVt.lt ho138
  have rel143 : ∀ q, F137 q → B q ∨ w.heap.size ≤ q := fun q hq => by rcases hfr139 q hq with h | h; exact hrI q h; exact .inr (by omega)
  have dis144 : ∀ q, F137 q → ¬ G q := fun q h1 h2 => by rcases hfr139 q h1 with h | h; exact hpl.gi q h2 h; (have h4 := ltG q h2; omega)
  have dis145 : ∀ q, F137 q → ¬ H q := fun q h1 h2 => by rcases hfr139 q h1 with h | h; exact hpl.hi q h2 h; (have h4 := ltH q h2; omega)
  have dis146 : ∀ q, F137 q → ¬ F124 q := fun q h1 h2 => by rcases hfr139 q h1 with h | h; exact dis134 q h2 h; (have h4 := lt129 q h2; omega)
  refine Gn [] [4] <| GI_end <| X_then <| V_ret <| X_ret_block <| X_ret_then ?_
  obtain ⟨e1, e2, e3, e4⟩ := act_4 (now := now) (s := s) (xs := xs) (cs := cs) hc115
  rw [e1, e2, e3, e4]
  exact Xr (.bool (decide (unvE s z.who z.ref = unvE s z.who z.ref))) ⟨by simp, (PlX.pack hb ho125 hl hx ho138 dis132 dis133 (fun q h1 h2 => dis146 q h2 h1) hpl.gh (fun q h1 h2 => dis144 q h2 h1) (fun q h1 h2 => dis145 q h2 h1) (fun q h => (own130 q h).1) hoG hoH (fun q h => (own142 q h).1) hBb rel131 hrG hrH rel143), hK0⟩
 refine Vn [0, 3, 6, 119] <| Vi (z.k = 5) (fun hc147 => ?_) (fun hc147 => ?_)
 ·
  refine V_seq <| Vd1 (acts [18, 37]) (fun q => q ≠ b1 ∧ q ≠ b) [0, 1, 2, 3, 4, 5, 6, 7, 8, 9, 10, 11, 12, 13, 14, 15, 16, 17, 18, 19, 20, 21, 22, 23, 24, 25, 26, 27, 28, 29, 30, 31, 32, 33, 34, 35, 36, 37, 38, 39] fun w149 hk148 he150 K153 _ => ?_
  replace hb := hb.k0 hk148
  replace hb1 := hb1.k0 hk148
  replace hv := hv.keep hk148 nk
  replace hl := hl.keep hk148 nk
  replace hx := DLd.keep hx hk148 nk
  replace hy := DVt.keep hy hk148 nk
  replace hK0 := hK0.tn hk148
  have qhb := hb
  have qhb1 := hb1
  refine Gn [3, 4, 5, 6, 7, 8, 9, 10, 11, 12, 13, 14, 15, 16, 17, 18, 19, 20, 21, 22, 23, 24, 25, 26, 27, 28, 29, 30, 31, 32, 33, 34, 35, 36, 37, 38, 39] [0, 3, 123] <| Mc 1 (pt v) qhb nb2 rfl <| Gn [7, 8, 9, 10, 11, 12, 13, 14, 15, 16, 17, 18, 19, 20, 21, 22, 23, 24, 25, 26, 27, 28, 29, 30, 31, 32, 33, 34, 35, 36, 37, 38, 39] [0, 3, 124, 127] <| Mc 0 (pt l) qhb nb2 rfl <| Gn [9, 10, 11, 12, 13, 14, 15, 16, 17, 18, 19, 20, 21, 22, 23, 24, 25, 26, 27, 28, 29, 30, 31, 32, 33, 34, 35, 36, 37, 38, 39] [0, 3, 124, 128, 129] <| Mc 1 (nt z.who) qhb1 nb1 rfl <| Gn [11, 12, 13, 14, 15, 16, 17, 18, 19, 20, 21, 22, 23, 24, 25, 26, 27, 28, 29, 30, 31, 32, 33, 34, 35, 36, 37, 38, 39] [0, 3, 124, 128, 130, 131] <| Mc 3 (nt z.tr) qhb1 nb1 rfl <| Gn [13, 14, 15, 16, 17, 18, 19, 20, 21, 22, 23, 24, 25, 26, 27, 28, 29, 30, 31, 32, 33, 34, 35, 36, 37, 38, 39] [0, 3, 124, 128, 130, 132, 133] <| Mc 5 (nt z.to) qhb1 nb1 rfl <| Gn [15, 16, 17, 18, 19, 20, 21, 22, 23, 24, 25, 26, 27, 28, 29, 30, 31, 32, 33, 34, 35, 36, 37, 38, 39] [0, 3, 124, 128, 130, 132, 134, 135] <| Mc 6 (nt z.lv) qhb1 nb1 rfl <| Gn [17, 18, 19, 20, 21, 22, 23, 24, 25, 26, 27, 28, 29, 30, 31, 32, 33, 34, 35, 36, 37, 38, 39] [0, 3, 124, 128, 130, 132, 134, 136, 137] <| Mc 7 (nt z.n) qhb1 nb1 rfl <| Hg (delegate_spec F G v l s xs cs z.who z.tr z.to z.lv z.n _ hv hl hpl.fg (by omega)) ?_
  rintro _ w154 ⟨rfl, ⟨F156, F159, ho157, ho160, hfr158, hfr161, hdis162⟩, hk155⟩
  have K163 := Keep.fresh K153 hk155 (by intro i hi hs; rcases hs with hs | hs; (have u0 := hoF i hs; have u1 := ltF i hs; show i ≠ b1 ∧ i ≠ b; omega); (have u0 := hoG i hs; have u1 := ltG i hs; show i ≠ b1 ∧ i ≠ b; omega))
  refine ⟨_, rfl, K163, ?_⟩
  have hzK163 := Keep.size K163
  have hsz164 := Keep.size hk155
  replace hb := hb.keep hk155 (fun hs => by rcases hs with hs | hs; (have u0 := hoF _ hs; have u1 := ltF _ hs; omega); (have u0 := hoG _ hs; have u1 := ltG _ hs; omega))
  replace hx := DLd.keep hx hk155 (fun q hq hs => by rcases hs with hs | hs; exact hpl.fh q hs hq; exact hpl.gh q hs hq)
  replace hy := DVt.keep hy hk155 (fun q hq hs => by rcases hs with hs | hs; exact hpl.fi q hs hq; exact hpl.gi q hs hq)
  replace hK0 := Keep.fresh hK0 hk155 (fun i hi hs => by rcases hs with hs | hs; (rcases hrF i hs with h | h; exact h; (exfalso; omega)); (rcases hrG i hs with h | h; exact h; (exfalso; omega)))
  have own166 : ∀ q, F156 q → q ≠ b ∧ q ≠ b ∧ q ≠ b1 := fun q hq => by rcases hfr158 q hq with h | h; (have h1 := hoF q h; have h2 := ltF q h; omega); omega
  have lt165 := VotT.lt ho157
  have rel167 : ∀ q, F156 q → B q ∨ w.heap.size ≤ q := fun q hq => by rcases hfr158 q hq with h | h; exact hrF q h; exact .inr (by omega)
  have dis168 : ∀ q, F156 q → ¬ H q := fun q h1 h2 => by rcases hfr158 q h1 with h | h; exact hpl.fh q h h2; (have h4 := ltH q h2; omega)
  have dis169 : ∀ q, F156 q → ¬ I q := fun q h1 h2 => by rcases hfr158 q h1 with h | h; exact hpl.fi q h h2; (have h4 := ltI q h2; omega)
  have own171 : ∀ q, F159 q → q ≠ b ∧ q ≠ b ∧ q ≠ b1 := fun q hq => by rcases hfr161 q hq with h | h; (have h1 := hoG q h; have h2 := ltG q h; omega); omega
  have lt170 := Led.lt ho160
  have rel172 : ∀ q, F159 q → B q ∨ w.heap.size ≤ q := fun q hq => by rcases hfr161 q hq with h | h; exact hrG q h; exact .inr (by omega)
  have dis173 : ∀ q, F159 q → ¬ H q := fun q h1 h2 => by rcases hfr161 q h1 with h | h; exact hpl.gh q h h2; (have h4 := ltH q h2; omega)
  have dis174 : ∀ q, F159 q → ¬ I q := fun q h1 h2 => by rcases hfr161 q h1 with h | h; exact hpl.gi q h h2; (have h4 := ltI q h2; omega)
  refine Gn [22, 23, 24, 25, 26, 27, 28, 29, 30, 31, 32, 33, 34, 35, 36, 37, 38, 39] [0, 3, 139, 142] <| Mc 3 (pt y) qhb nb2 rfl <| Gn [26, 27, 28, 29, 30, 31, 32, 33, 34, 35, 36, 37, 38, 39] [3, 139, 143, 146] <| Mc 2 (pt x) qhb nb2 rfl <| Gn [28, 29, 30, 31, 32, 33, 34, 35, 36, 37, 38, 39] [3, 139, 143, 147, 148] <| Mc 1 (nt z.who) qhb1 nb1 rfl <| Gn [30, 31, 32, 33, 34, 35, 36, 37, 38, 39] [3, 139, 143, 147, 149, 150] <| Mc 3 (nt z.tr) qhb1 nb1 rfl <| Gn [32, 33, 34, 35, 36, 37, 38, 39] [3, 139, 143, 147, 149, 151, 152] <| Mc 5 (nt z.to) qhb1 nb1 rfl <| Gn [34, 35, 36, 37, 38, 39] [3, 139, 143, 147, 149, 151, 153, 154] <| Mc 6 (nt z.lv) qhb1 nb1 rfl <| Gn [36, 37, 38, 39] [139, 143, 147, 149, 151, 153, 155, 156] <| Mc 7 (nt z.n) qhb1 nb1 rfl <| Jg (ddelegate_spec I H y x s xs cs z.who z.tr z.to z.lv z.n _ hy hx (fun q h1 h2 => hpl.hi q h2 h1) (by omega)) ?_
  rintro _ w175 ⟨rfl, ⟨F177, F180, ho178, ho181, hfr179, hfr182, hdis183⟩, hk176⟩
  refine ⟨_, rfl, ?_⟩
  have hsz184 := Keep.size hk176
  replace hb := hb.keep hk176 (fun hs => by rcases hs with hs | hs; (have u0 := hoI _ hs; have u1 := ltI _ hs; omega); (have u0 := hoH _ hs; have u1 := ltH _ hs; omega))
  replace hK0 := Keep.fresh hK0 hk176 (fun i hi hs => by rcases hs with hs | hs; (rcases hrI i hs with h | h; exact h; (exfalso; omega)); (rcases hrH i hs with h | h; exact h; (exfalso; omega)))
  replace ho157 := ho157.keep hk176 (fun q hq hs => by rcases hs with hs | hs; exact dis169 q hq hs; exact dis168 q hq hs)
  replace ho160 := ho160.keep hk176 (fun q hq hs => by rcases hs with hs | hs; exact dis174 q hq hs; exact dis173 q hq hs)
  have own186 : ∀ q, F177 q → q ≠ b ∧ q ≠ b ∧ q ≠ b1 := fun q hq => by rcases hfr179 q hq with h | h; (have h1 := hoI q h; have h2 := ltI q h; omega); omega
  have lt185 := DVt.lt ho178
  have rel187 : ∀ q, F177 q → B q ∨ w.heap.size ≤ q := fun q hq => by rcases hfr179 q hq with h | h; exact hrI q h; exact .inr (by omega)
  have dis188 : ∀ q, F177 q → ¬ F156 q := fun q h1 h2 => by rcases hfr179 q h1 with h | h; exact dis169 q h2 h; (have h4 := lt165 q h2; omega)
  have dis189 : ∀ q, F177 q → ¬ F159 q := fun q h1 h2 => by rcases hfr179 q h1 with h | h; exact dis174 q h2 h; (have h4 := lt170 q h2; omega)
  have own191 : ∀ q, F180 q → q ≠ b ∧ q ≠ b ∧ q ≠ b1 := fun q hq => by rcases hfr182 q hq with h | h; (have h1 := hoH q h; have h2 := ltH q h; omega); omega
  have lt190 := DLd.lt ho181
  have rel192 : ∀ q, F180 q → B q ∨ w.heap.size ≤ q := fun q hq => by rcases hfr182 q hq with h | h; exact hrH q h; exact .inr (by omega)
  have dis193 : ∀ q, F180 q → ¬ F156 q := fun q h1 h2 => by rcases hfr182 q h1 with h | h; exact dis168 q h2 h; (have h4 := lt165 q h2; omega)
  have dis194 : ∀ q, F180 q → ¬ F159 q := fun q h1 h2 => by rcases hfr182 q h1 with h | h; exact dis173 q h2 h; (have h4 := lt170 q h2; omega)
  refine Gn [] [4] <| GI_end <| X_then <| V_ret <| X_ret_block <| X_ret_then ?_
  obtain ⟨e1, e2, e3, e4⟩ := act_5 (now := now) (s := s) (xs := xs) (cs := cs) hc147
  rw [e1, e2, e3, e4]
  exact Xr (.bool (decide (delE xs s z.who z.tr z.to z.lv z.n = delE xs s z.who z.tr z.to z.lv z.n))) ⟨by simp, (PlX.pack hb ho157 ho160 ho181 ho178 hdis162 (fun q h1 h2 => dis193 q h2 h1) (fun q h1 h2 => dis188 q h2 h1) (fun q h1 h2 => dis194 q h2 h1) (fun q h1 h2 => dis189 q h2 h1) (fun q h1 h2 => hdis183 q h2 h1) (fun q h => (own166 q h).1) (fun q h => (own171 q h).1) (fun q h => (own191 q h).1) (fun q h => (own186 q h).1) hBb rel167 rel172 rel192 rel187), hK0⟩
 refine Vn [0, 3, 6, 160] <| Vi (z.k = 6) (fun hc195 => ?_) (fun hc195 => ?_)
 ·
  refine V_seq <| Vd1 (acts [12, 25]) (fun q => q ≠ b1 ∧ q ≠ b) [0, 1, 2, 3, 4, 5, 6, 7, 8, 9, 10, 11, 12, 13, 14, 15, 16, 17, 18, 19, 20, 21, 22, 23, 24, 25, 26, 27] fun w197 hk196 he198 K201 _ => ?_
  replace hb := hb.k0 hk196
  replace hb1 := hb1.k0 hk196
  replace hv := hv.keep hk196 nk
  replace hl := hl.keep hk196 nk
  replace hx := DLd.keep hx hk196 nk
  replace hy := DVt.keep hy hk196 nk
  replace hK0 := hK0.tn hk196
  have qhb := hb
  have qhb1 := hb1
  refine Gn [3, 4, 5, 6, 7, 8, 9, 10, 11, 12, 13, 14, 15, 16, 17, 18, 19, 20, 21, 22, 23, 24, 25, 26, 27] [0, 3, 164] <| Mc 1 (pt v) qhb nb2 rfl <| Gn [5, 6, 7, 8, 9, 10, 11, 12, 13, 14, 15, 16, 17, 18, 19, 20, 21, 22, 23, 24, 25, 26, 27] [0, 3, 165, 166] <| Mc 1 (nt z.who) qhb1 nb1 rfl <| Gn [7, 8, 9, 10, 11, 12, 13, 14, 15, 16, 17, 18, 19, 20, 21, 22, 23, 24, 25, 26, 27] [0, 3, 165, 167, 168] <| Mc 3 (nt z.tr) qhb1 nb1 rfl <| Gn [11, 12, 13, 14, 15, 16, 17, 18, 19, 20, 21, 22, 23, 24, 25, 26, 27] [0, 3, 165, 167, 169, 172] <| Mc 4 (nt now) qhb nb2 rfl <| Hg (undelegate_specT F v s z.who z.tr now _ hv) ?_
  rintro _ w202 ⟨rfl, ⟨F204, ho205, hfr206⟩, hk203⟩
  have K207 := Keep.fresh K201 hk203 (by intro i hi hs; have h1 := hoF i hs; have h2 := ltF i hs; show i ≠ b1 ∧ i ≠ b; omega)
  refine ⟨_, rfl, K207, ?_⟩
  have hzK207 := Keep.size K207
  have hsz208 := Keep.size hk203
  replace hb := hb.keep hk203 (fun hs => by have h1 := hoF _ hs; have h2 := ltF _ hs; omega)
  replace hl := hl.keep hk203 (fun q hq hs => hpl.fg q hs hq)
  replace hx := DLd.keep hx hk203 (fun q hq hs => hpl.fh q hs hq)
  replace hy := DVt.keep hy hk203 (fun q hq hs => hpl.fi q hs hq)
  replace hK0 := frr hK0 hk203 hrF
  have own210 : ∀ q, F204 q → q ≠ b ∧ q ≠ b ∧ q ≠ b1 := fun q hq => by rcases hfr206 q hq with h | h; (have h1 := hoF q h; have h2 := ltF q h; omega); omega
  have lt209 := VotT.lt ho205
  have rel211 : ∀ q, F204 q → B q ∨ w.heap.size ≤ q := fun q hq => by rcases hfr206 q hq with h | h; exact hrF q h; exact .inr (by omega)
  have dis212 : ∀ q, F204 q → ¬ G q := fun q h1 h2 => by rcases hfr206 q h1 with h | h; exact hpl.fg q h h2; (have h4 := ltG q h2; omega)
  have dis213 : ∀ q, F204 q → ¬ H q := fun q h1 h2 => by rcases hfr206 q h1 with h | h; exact hpl.fh q h h2; (have h4 := ltH q h2; omega)
  have dis214 : ∀ q, F204 q → ¬ I q := fun q h1 h2 => by rcases hfr206 q h1 with h | h; exact hpl.fi q h h2; (have h4 := ltI q h2; omega)
  refine Gn [16, 17, 18, 19, 20, 21, 22, 23, 24, 25, 26, 27] [0, 3, 174, 177] <| Mc 3 (pt y) qhb nb2 rfl <| Gn [18, 19, 20, 21, 22, 23, 24, 25, 26, 27] [0, 3, 174, 178, 179] <| Mc 1 (nt z.who) qhb1 nb1 rfl <| Gn [20, 21, 22, 23, 24, 25, 26, 27] [0, 174, 178, 180, 181] <| Mc 3 (nt z.tr) qhb1 nb1 rfl <| Gn [24, 25, 26, 27] [174, 178, 180, 182, 185] <| Mc 4 (nt now) qhb nb2 rfl <| Jg (dundelegate_spec I y s z.who z.tr now _ hy) ?_
  rintro _ w215 ⟨rfl, ⟨F217, ho218, hfr219⟩, hk216⟩
  refine ⟨_, rfl, ?_⟩
  have hsz220 := Keep.size hk216
  replace hb := hb.keep hk216 (fun hs => by have h1 := hoI _ hs; have h2 := ltI _ hs; omega)
  replace hl := hl.keep hk216 (fun q hq hs => hpl.gi q hq hs)
  replace hx := DLd.keep hx hk216 (fun q hq hs => hpl.hi q hq hs)
  replace hK0 := frr hK0 hk216 hrI
  replace ho205 := ho205.keep hk216 (fun q hq hs => dis214 q hq hs)
  have own222 : ∀ q, F217 q → q ≠ b ∧ q ≠ b ∧ q ≠ b1 := fun q hq => by rcases hfr219 q hq with h | h; (have h1 := hoI q h; have h2 := ltI q h; omega); omega
  have lt221 := DVt.lt ho218
  have rel223 : ∀ q, F217 q → B q ∨ w.heap.size ≤ q := fun q hq => by rcases hfr219 q hq with h | h; exact hrI q h; exact .inr (by omega)
  have dis224 : ∀ q, F217 q → ¬ G q := fun q h1 h2 => by rcases hfr219 q h1 with h | h; exact hpl.gi q h2 h; (have h4 := ltG q h2; omega)
  have dis225 : ∀ q, F217 q → ¬ H q := fun q h1 h2 => by rcases hfr219 q h1 with h | h; exact hpl.hi q h2 h; (have h4 := ltH q h2; omega)
  have dis226 : ∀ q, F217 q → ¬ F204 q := fun q h1 h2 => by rcases hfr219 q h1 with h | h; exact dis214 q h2 h; (have h4 := lt209 q h2; omega)
  refine Gn [] [4] <| GI_end <| X_then <| V_ret <| X_ret_block <| X_ret_then ?_
  obtain ⟨e1, e2, e3, e4⟩ := act_6 (now := now) (s := s) (xs := xs) (cs := cs) hc195
  rw [e1, e2, e3, e4]
  exact Xr (.bool (decide (undE s z.who z.tr = undE s z.who z.tr))) ⟨by simp, (PlX.pack hb ho205 hl hx ho218 dis212 dis213 (fun q h1 h2 => dis226 q h2 h1) hpl.gh (fun q h1 h2 => dis224 q h2 h1) (fun q h1 h2 => dis225 q h2 h1) (fun q h => (own210 q h).1) hoG hoH (fun q h => (own222 q h).1) hBb rel211 hrG hrH rel223), hK0⟩
 refine Vn [0, 3, 6, 189] <| Vi (z.k = 7) (fun hc227 => ?_) (fun hc227 => ?_)
 ·
  refine V_seq <| Vd1 (acts [16, 33]) (fun q => q ≠ b1 ∧ q ≠ b) [0, 1, 2, 3, 4, 5, 6, 7, 8, 9, 10, 11, 12, 13, 14, 15, 16, 17, 18, 19, 20, 21, 22, 23, 24, 25, 26, 27, 28, 29, 30, 31, 32, 33, 34, 35] fun w229 hk228 he230 K233 _ => ?_
  replace hb := hb.k0 hk228
  replace hb1 := hb1.k0 hk228
  replace hv := hv.keep hk228 nk
  replace hl := hl.keep hk228 nk
  replace hx := DLd.keep hx hk228 nk
  replace hy := DVt.keep hy hk228 nk
  replace hK0 := hK0.tn hk228
  have qhb := hb
  have qhb1 := hb1
  refine Gn [3, 4, 5, 6, 7, 8, 9, 10, 11, 12, 13, 14, 15, 16, 17, 18, 19, 20, 21, 22, 23, 24, 25, 26, 27, 28, 29, 30, 31, 32, 33, 34, 35] [0, 3, 193] <| Mc 1 (pt v) qhb nb2 rfl <| Gn [7, 8, 9, 10, 11, 12, 13, 14, 15, 16, 17, 18, 19, 20, 21, 22, 23, 24, 25, 26, 27, 28, 29, 30, 31, 32, 33, 34, 35] [0, 3, 194, 197] <| Mc 0 (pt l) qhb nb2 rfl <| Gn [9, 10, 11, 12, 13, 14, 15, 16, 17, 18, 19, 20, 21, 22, 23, 24, 25, 26, 27, 28, 29, 30, 31, 32, 33, 34, 35] [0, 3, 194, 198, 199] <| Mc 1 (nt z.who) qhb1 nb1 rfl <| Gn [11, 12, 13, 14, 15, 16, 17, 18, 19, 20, 21, 22, 23, 24, 25, 26, 27, 28, 29, 30, 31, 32, 33, 34, 35] [0, 3, 194, 198, 200, 201] <| Mc 3 (nt z.tr) qhb1 nb1 rfl <| Gn [15, 16, 17, 18, 19, 20, 21, 22, 23, 24, 25, 26, 27, 28, 29, 30, 31, 32, 33, 34, 35] [0, 3, 194, 198, 200, 202, 205] <| Mc 4 (nt now) qhb nb2 rfl <| Hg (unlock_spec F G v l s xs cs z.who z.tr now _ hv hl hpl.fg (by omega)) ?_
  rintro _ w234 ⟨rfl, ⟨F236, F239, ho237, ho240, hfr238, hfr241, hdis242⟩, hk235⟩
  have K243 := Keep.fresh K233 hk235 (by intro i hi hs; rcases hs with hs | hs; (have u0 := hoF i hs; have u1 := ltF i hs; show i ≠ b1 ∧ i ≠ b; omega); (have u0 := hoG i hs; have u1 := ltG i hs; show i ≠ b1 ∧ i ≠ b; omega))
  refine ⟨_, rfl, K243, ?_⟩
  have hzK243 := Keep.size K243
  have hsz244 := Keep.size hk235
  replace hb := hb.keep hk235 (fun hs => by rcases hs with hs | hs; (have u0 := hoF _ hs; have u1 := ltF _ hs; omega); (have u0 := hoG _ hs; have u1 := ltG _ hs; omega))
  replace hx := DLd.keep hx hk235 (fun q hq hs => by rcases hs with hs | hs; exact hpl.fh q hs hq; exact hpl.gh q hs hq)
  replace hy := DVt.keep hy hk235 (fun q hq hs => by rcases hs with hs | hs; exact hpl.fi q hs hq; exact hpl.gi q hs hq)
  replace hK0 := Keep.fresh hK0 hk235 (fun i hi hs => by rcases hs with hs | hs; (rcases hrF i hs with h | h; exact h; (exfalso; omega)); (rcases hrG i hs with h | h; exact h; (exfalso; omega)))
  have own246 : ∀ q, F236 q → q ≠ b ∧ q ≠ b ∧ q ≠ b1 := fun q hq => by rcases hfr238 q hq with h | h; (have h1 := hoF q h; have h2 := ltF q h; omega); omega
  have lt245 := VotT.lt ho237
  have rel247 : ∀ q, F236 q → B q ∨ w.heap.size ≤ q := fun q hq => by rcases hfr238 q hq with h | h; exact hrF q h; exact .inr (by omega)
  have dis248 : ∀ q, F236 q → ¬ H q := fun q h1 h2 => by rcases hfr238 q h1 with h | h; exact hpl.fh q h h2; (have h4 := ltH q h2; omega)
  have dis249 : ∀ q, F236 q → ¬ I q := fun q h1 h2 => by rcases hfr238 q h1 with h | h; exact hpl.fi q h h2; (have h4 := ltI q h2; omega)
  have own251 : ∀ q, F239 q → q ≠ b ∧ q ≠ b ∧ q ≠ b1 := fun q hq => by rcases hfr241 q hq with h | h; (have h1 := hoG q h; have h2 := ltG q h; omega); omega
  have lt250 := Led.lt ho240
  have rel252 : ∀ q, F239 q → B q ∨ w.heap.size ≤ q := fun q hq => by rcases hfr241 q hq with h | h; exact hrG q h; exact .inr (by omega)
  have dis253 : ∀ q, F239 q → ¬ H q := fun q h1 h2 => by rcases hfr241 q h1 with h | h; exact hpl.gh q h h2; (have h4 := ltH q h2; omega)
  have dis254 : ∀ q, F239 q → ¬ I q := fun q h1 h2 => by rcases hfr241 q h1 with h | h; exact hpl.gi q h h2; (have h4 := ltI q h2; omega)
  refine Gn [20, 21, 22, 23, 24, 25, 26, 27, 28, 29, 30, 31, 32, 33, 34, 35] [0, 3, 207, 210] <| Mc 3 (pt y) qhb nb2 rfl <| Gn [24, 25, 26, 27, 28, 29, 30, 31, 32, 33, 34, 35] [0, 3, 207, 211, 214] <| Mc 2 (pt x) qhb nb2 rfl <| Gn [26, 27, 28, 29, 30, 31, 32, 33, 34, 35] [0, 3, 207, 211, 215, 216] <| Mc 1 (nt z.who) qhb1 nb1 rfl <| Gn [28, 29, 30, 31, 32, 33, 34, 35] [0, 207, 211, 215, 217, 218] <| Mc 3 (nt z.tr) qhb1 nb1 rfl <| Gn [32, 33, 34, 35] [207, 211, 215, 217, 219, 222] <| Mc 4 (nt now) qhb nb2 rfl <| Jg (dunlock_spec I H y x s xs cs z.who z.tr now _ hy hx (fun q h1 h2 => hpl.hi q h2 h1) (by omega)) ?_
  rintro _ w255 ⟨rfl, ⟨F257, F260, ho258, ho261, hfr259, hfr262, hdis263⟩, hk256⟩
  refine ⟨_, rfl, ?_⟩
  have hsz264 := Keep.size hk256
  replace hb := hb.keep hk256 (fun hs => by rcases hs with hs | hs; (have u0 := hoI _ hs; have u1 := ltI _ hs; omega); (have u0 := hoH _ hs; have u1 := ltH _ hs; omega))
  replace hK0 := Keep.fresh hK0 hk256 (fun i hi hs => by rcases hs with hs | hs; (rcases hrI i hs with h | h; exact h; (exfalso; omega)); (rcases hrH i hs with h | h; exact h; (exfalso; omega)))
  replace ho237 := ho237.keep hk256 (fun q hq hs => by rcases hs with hs | hs; exact dis249 q hq hs; exact dis248 q hq hs)
  replace ho240 := ho240.keep hk256 (fun q hq hs => by rcases hs with hs | hs; exact dis254 q hq hs; exact dis253 q hq hs)
  have own266 : ∀ q, F257 q → q ≠ b ∧ q ≠ b ∧ q ≠ b1 := fun q hq => by rcases hfr259 q hq with h | h; (have h1 := hoI q h; have h2 := ltI q h; omega); omega
  have lt265 := DVt.lt ho258
  have rel267 : ∀ q, F257 q → B q ∨ w.heap.size ≤ q := fun q hq => by rcases hfr259 q hq with h | h; exact hrI q h; exact .inr (by omega)
  have dis268 : ∀ q, F257 q → ¬ F236 q := fun q h1 h2 => by rcases hfr259 q h1 with h | h; exact dis249 q h2 h; (have h4 := lt245 q h2; omega)
  have dis269 : ∀ q, F257 q → ¬ F239 q := fun q h1 h2 => by rcases hfr259 q h1 with h | h; exact dis254 q h2 h; (have h4 := lt250 q h2; omega)
  have own271 : ∀ q, F260 q → q ≠ b ∧ q ≠ b ∧ q ≠ b1 := fun q hq => by rcases hfr262 q hq with h | h; (have h1 := hoH q h; have h2 := ltH q h; omega); omega
  have lt270 := DLd.lt ho261
  have rel272 : ∀ q, F260 q → B q ∨ w.heap.size ≤ q := fun q hq => by rcases hfr262 q hq with h | h; exact hrH q h; exact .inr (by omega)
  have dis273 : ∀ q, F260 q → ¬ F236 q := fun q h1 h2 => by rcases hfr262 q h1 with h | h; exact dis248 q h2 h; (have h4 := lt245 q h2; omega)
  have dis274 : ∀ q, F260 q → ¬ F239 q := fun q h1 h2 => by rcases hfr262 q h1 with h | h; exact dis253 q h2 h; (have h4 := lt250 q h2; omega)
  refine Gn [] [4] <| GI_end <| X_then <| V_ret <| X_ret_block <| X_ret_then ?_
  obtain ⟨e1, e2, e3, e4⟩ := act_7 (now := now) (s := s) (xs := xs) (cs := cs) hc227
  rw [e1, e2, e3, e4]
  exact Xr (.bool (decide (unlE z.who z.tr = unlE z.who z.tr))) ⟨by simp, (PlX.pack hb ho237 ho240 ho261 ho258 hdis242 (fun q h1 h2 => dis273 q h2 h1) (fun q h1 h2 => dis268 q h2 h1) (fun q h1 h2 => dis274 q h2 h1) (fun q h1 h2 => dis269 q h2 h1) (fun q h1 h2 => hdis263 q h2 h1) (fun q h => (own246 q h).1) (fun q h => (own251 q h).1) (fun q h => (own271 q h).1) (fun q h => (own266 q h).1) hBb rel247 rel252 rel272 rel267), hK0⟩
 refine Vn [0, 3, 226] <| Vi (z.k = 8) (fun hc275 => ?_) (fun hc275 => ?_)
 ·
  refine V_seq <| Vd1 (acts [12]) none_ [0, 1, 2, 3, 4, 5, 6, 7, 8, 9, 10, 11, 12] fun w277 hk276 he278 K281 _ => ?_
  replace hb := hb.k0 hk276
  replace hb1 := hb1.k0 hk276
  replace hv := hv.keep hk276 nk
  replace hl := hl.keep hk276 nk
  replace hx := DLd.keep hx hk276 nk
  replace hy := DVt.keep hy hk276 nk
  replace hK0 := hK0.tn hk276
  have qhb := hb
  have qhb1 := hb1
  refine Gn [4, 5, 6, 7, 8, 9, 10, 11, 12] [3, 228, 231] <| Mr 4 (nt now) qhb <| Gn [6, 7, 8, 9, 10, 11, 12] [228, 232, 233] <| Mr 7 (nt z.n) qhb1 <| Gn [12] [237, 239] <| GI_final 12 (by kernel_rfl) (by kernel_rfl) <| St_ 4 (nt (imin 1073741824 (i64.wrap (now + (bAnd z.n 255))))) hb ?_
  intro w282 hb_285 hk283 hz284
  replace hb_285 : Blk w282 b [pt l, pt v, pt x, pt y, nt (imin 1073741824 (i64.wrap (now + (bAnd z.n 255))))] 35 := hb_285
  have hsz286 := Keep.size hk283
  replace hv := hv.keep hk283 (fun q hq hs => by have hs : q = b := hs; have g0 := hoF q hq; have g1 := ltF q hq; omega)
  replace hl := hl.keep hk283 (fun q hq hs => by have hs : q = b := hs; have g0 := hoG q hq; have g1 := ltG q hq; omega)
  replace hx := DLd.keep hx hk283 (fun q hq hs => by have hs : q = b := hs; have g0 := hoH q hq; have g1 := ltH q hq; omega)
  replace hy := DVt.keep hy hk283 (fun q hq hs => by have hs : q = b := hs; have g0 := hoI q hq; have g1 := ltI q hq; omega)
  replace hK0 := Keep.fresh hK0 hk283 (by intro i hi hs; have hs2 : i = b := hs; first | (exfalso; omega) | (rw [hs2]; exact hBb))
  refine Oer <| Oen [4] <| V_ret <| X_ret_block <| X_ret_then ?_
  obtain ⟨e1, e2, e3, e4⟩ := act_8 (now := now) (s := s) (xs := xs) (cs := cs) hc275
  rw [e1, e2, e3, e4]
  exact Xr (.bool true) ⟨by simp, (PlX.pack hb_285 hv hl hx hy hpl.fg hpl.fh hpl.fi hpl.gh hpl.gi hpl.hi hoF hoG hoH hoI hBb hrF hrG hrH hrI), hK0⟩
 refine V_skip <| X_block <| X_then <| V_seq <| Vd1 (acts [10, 21]) (fun q => q ≠ b1 ∧ q ≠ b) [0, 1, 2, 3, 4, 5, 6, 7, 8, 9, 10, 11, 12, 13, 14, 15, 16, 17, 18, 19, 20, 21, 22, 23] fun w288 hk287 he289 K292 _ => ?_
 replace hb := hb.k0 hk287
 replace hb1 := hb1.k0 hk287
 replace hv := hv.keep hk287 nk
 replace hl := hl.keep hk287 nk
 replace hx := DLd.keep hx hk287 nk
 replace hy := DVt.keep hy hk287 nk
 replace hK0 := hK0.tn hk287
 have qhb := hb
 have qhb1 := hb1
 refine Gn [3, 4, 5, 6, 7, 8, 9, 10, 11, 12, 13, 14, 15, 16, 17, 18, 19, 20, 21, 22, 23] [0, 3, 242] <| Mc 0 (pt l) qhb nb2 rfl <| Gn [5, 6, 7, 8, 9, 10, 11, 12, 13, 14, 15, 16, 17, 18, 19, 20, 21, 22, 23] [0, 3, 243, 244] <| Mc 1 (nt z.who) qhb1 nb1 rfl <| Gn [7, 8, 9, 10, 11, 12, 13, 14, 15, 16, 17, 18, 19, 20, 21, 22, 23] [0, 3, 243, 245, 246] <| Mc 5 (nt z.to) qhb1 nb1 rfl <| Gn [9, 10, 11, 12, 13, 14, 15, 16, 17, 18, 19, 20, 21, 22, 23] [0, 3, 243, 245, 247, 248] <| Mc 7 (nt z.n) qhb1 nb1 rfl <| Hg (transfer_spec G l xs cs z.who z.to z.n _ hl) ?_
 rintro _ w293 ⟨rfl, ⟨F295, ho296, hfr297⟩, hk294⟩
 have K298 := Keep.fresh K292 hk294 (by intro i hi hs; have h1 := hoG i hs; have h2 := ltG i hs; show i ≠ b1 ∧ i ≠ b; omega)
 refine ⟨_, rfl, K298, ?_⟩
 have hzK298 := Keep.size K298
 have hsz299 := Keep.size hk294
 replace hb := hb.keep hk294 (fun hs => by have h1 := hoG _ hs; have h2 := ltG _ hs; omega)
 replace hv := hv.keep hk294 (fun q hq hs => hpl.fg q hq hs)
 replace hx := DLd.keep hx hk294 (fun q hq hs => hpl.gh q hs hq)
 replace hy := DVt.keep hy hk294 (fun q hq hs => hpl.gi q hs hq)
 replace hK0 := frr hK0 hk294 hrG
 have own301 : ∀ q, F295 q → q ≠ b ∧ q ≠ b ∧ q ≠ b1 := fun q hq => by rcases hfr297 q hq with h | h; (have h1 := hoG q h; have h2 := ltG q h; omega); omega
 have lt300 := Led.lt ho296
 have rel302 : ∀ q, F295 q → B q ∨ w.heap.size ≤ q := fun q hq => by rcases hfr297 q hq with h | h; exact hrG q h; exact .inr (by omega)
 have dis303 : ∀ q, F295 q → ¬ F q := fun q h1 h2 => by rcases hfr297 q h1 with h | h; exact hpl.fg q h2 h; (have h4 := ltF q h2; omega)
 have dis304 : ∀ q, F295 q → ¬ H q := fun q h1 h2 => by rcases hfr297 q h1 with h | h; exact hpl.gh q h h2; (have h4 := ltH q h2; omega)
 have dis305 : ∀ q, F295 q → ¬ I q := fun q h1 h2 => by rcases hfr297 q h1 with h | h; exact hpl.gi q h h2; (have h4 := ltI q h2; omega)
 refine Gn [14, 15, 16, 17, 18, 19, 20, 21, 22, 23] [3, 250, 253] <| Mc 2 (pt x) qhb nb2 rfl <| Gn [16, 17, 18, 19, 20, 21, 22, 23] [3, 250, 254, 255] <| Mc 1 (nt z.who) qhb1 nb1 rfl <| Gn [18, 19, 20, 21, 22, 23] [3, 250, 254, 256, 257] <| Mc 5 (nt z.to) qhb1 nb1 rfl <| Gn [20, 21, 22, 23] [250, 254, 256, 258, 259] <| Mc 7 (nt z.n) qhb1 nb1 rfl <| Jg (transfer6_spec H x xs cs z.who z.to z.n _ hx) ?_
 rintro _ w306 ⟨rfl, ⟨F308, ho309, hfr310⟩, hk307⟩
 refine ⟨_, rfl, ?_⟩
 have hsz311 := Keep.size hk307
 replace hb := hb.keep hk307 (fun hs => by have h1 := hoH _ hs; have h2 := ltH _ hs; omega)
 replace hv := hv.keep hk307 (fun q hq hs => hpl.fh q hq hs)
 replace hy := DVt.keep hy hk307 (fun q hq hs => hpl.hi q hs hq)
 replace hK0 := frr hK0 hk307 hrH
 replace ho296 := ho296.keep hk307 (fun q hq hs => dis304 q hq hs)
 have own313 : ∀ q, F308 q → q ≠ b ∧ q ≠ b ∧ q ≠ b1 := fun q hq => by rcases hfr310 q hq with h | h; (have h1 := hoH q h; have h2 := ltH q h; omega); omega
 have lt312 := DLd.lt ho309
 have rel314 : ∀ q, F308 q → B q ∨ w.heap.size ≤ q := fun q hq => by rcases hfr310 q hq with h | h; exact hrH q h; exact .inr (by omega)
 have dis315 : ∀ q, F308 q → ¬ F q := fun q h1 h2 => by rcases hfr310 q h1 with h | h; exact hpl.fh q h2 h; (have h4 := ltF q h2; omega)
 have dis316 : ∀ q, F308 q → ¬ I q := fun q h1 h2 => by rcases hfr310 q h1 with h | h; exact hpl.hi q h h2; (have h4 := ltI q h2; omega)
 have dis317 : ∀ q, F308 q → ¬ F295 q := fun q h1 h2 => by rcases hfr310 q h1 with h | h; exact dis304 q h2 h; (have h4 := lt300 q h2; omega)
 refine Gn [] [4] <| GI_end <| X_then <| V_ret ?_
 obtain ⟨e1, e2, e3, e4⟩ := act_9 (now := now) (s := s) (xs := xs) (cs := cs) hc3 hc35 hc67 hc115 hc147 hc195 hc227 hc275
 rw [e1, e2, e3, e4]
 exact Xr (.bool (decide (transE xs cs z.who z.to z.n = transE xs cs z.who z.to z.n))) ⟨by simp, (PlX.pack hb hv ho296 ho309 hy (fun q h1 h2 => dis303 q h2 h1) (fun q h1 h2 => dis315 q h2 h1) hpl.fi (fun q h1 h2 => dis317 q h2 h1) dis305 dis316 hoF (fun q h => (own301 q h).1) (fun q h => (own313 q h).1) hoI hBb hrF rel302 rel314 hrI), hK0⟩
end Go.Al
namespace Go.Al
open Go Go.RowKit Go.Proofs
theorem voteS_err {xs : List Acc} {s : VS} {who ref : Int} {x : Vt} (h : ¬ voteE xs s who ref x = 0) : voteS xs s who ref x = s := by unfold voteS; rw [if_neg h]
theorem delS_err {xs : List Acc} {s : VS} {who t to level n : Int} (h : ¬ delE xs s who t to level n = 0) : delS xs s who t to level n = s := by unfold delS; rw [if_neg h]
end Go.Al
namespace Go.Al
open Go Go.RowKit Go.Proofs
section
variable {s : VS} {xs : List Acc} {cs : List Ci} {now : Int}
theorem voteE_ok {who ref : Int} {x : Vt} (h : voteE xs s who ref x = 0) : (0 ≤ who ∧ who ≤ 9) ∧ okV x ∧ ∃ q, pollAt s ref = some q ∧ q.state = 0 ∧ (s.rc who q.track).d = none ∧ capI x ≤ (acct xs who).free := by
  unfold voteE at h
  split at h
  · cases h
  · rename_i h1
    refine ⟨Classical.byContradiction fun h9 => h1 (.inl h9), Classical.byContradiction fun h9 => h1 (.inr h9), ?_⟩
    split at h
    · cases h
    · rename_i q hq
      refine ⟨q, hq, ?_⟩
      split at h
      · cases h
      · rename_i h2
        split at h
        · cases h
        · rename_i h3
          split at h
          · cases h
          · rename_i h4
            refine ⟨Classical.byContradiction fun h9 => h2 h9, ?_, by omega⟩
            cases hd : (s.rc who q.track).d with
            | none => rfl
            | some d => rw [hd] at h3; exact absurd rfl h3
theorem delE_ok {who t to level n : Int} (h : delE xs s who t to level n = 0) : (0 ≤ who ∧ who ≤ 9) ∧ (0 ≤ to ∧ to ≤ 9) ∧ (0 ≤ t ∧ t ≤ 3) ∧ (0 ≤ level ∧ level ≤ 6) ∧ (0 ≤ n ∧ n ≤ 1073741824) ∧ who ≠ to ∧ (s.rc who t).d = none ∧ vrow s who t = [] ∧ n ≤ (acct xs who).free := by
  unfold delE at h
  split at h
  · cases h
  · rename_i h1
    split at h
    · cases h
    · rename_i h2
      split at h
      · cases h
      · rename_i h3
        split at h
        · cases h
        · rename_i h4
          have g : ∀ {p : Prop}, (¬ p → False) → p := fun hp => Classical.byContradiction hp
          refine ⟨g fun h9 => h1 (.inl h9), g fun h9 => h1 (.inr (.inl h9)), g fun h9 => h1 (.inr (.inr (.inl h9))), g fun h9 => h1 (.inr (.inr (.inr (.inl h9)))), g fun h9 => h1 (.inr (.inr (.inr (.inr (.inl h9))))), fun h9 => h1 (.inr (.inr (.inr (.inr (.inr fun h8 => h8 h9))))), ?_, List.length_eq_zero_iff.1 (by omega), by omega⟩
          cases hd : (s.rc who t).d with
          | none => rfl
          | some d => rw [hd] at h2; exact absurd rfl h2
end
end Go.Al
namespace Go.Al
open Go Go.RowKit Go.Proofs
variable {a k t : Int} {s s' : VS}
namespace GV
theorem getC_set (a b : Int) (x : Vt) : ∀ (cs : List Ci), Srt cs → ∀ a' b', getC a' b' (setC a b x cs) = if a' = a ∧ b' = b then some x else getC a' b' cs
  | [], _, a', b' => by
    simp only [setC, getC]
    by_cases h : a' = a ∧ b' = b
    · rw [if_pos ⟨h.1.symm, h.2.symm⟩, if_pos h]
    · rw [if_neg (fun e => h ⟨e.1.symm, e.2.symm⟩), if_neg h]
  | c :: l, hs, a', b' => by
    have hs2 := List.pairwise_cons.1 hs
    have ih := getC_set a b x l hs2.2 a' b'
    simp only [setC]
    split
    · rename_i he
      simp only [getC]
      by_cases h : a' = a ∧ b' = b
      · rw [if_pos ⟨h.1.symm, h.2.symm⟩, if_pos h]
      · rw [if_neg (fun e => h ⟨e.1.symm, e.2.symm⟩), if_neg h, if_neg (fun e => h ⟨by omega, by omega⟩)]
    · rename_i he
      split
      · simp only [getC]
        rw [ih]
        by_cases h : a' = a ∧ b' = b
        · rw [if_pos h, if_pos h, if_neg (fun e => he ⟨by omega, by omega⟩)]
        · rw [if_neg h, if_neg h]
      · simp only [getC]
        by_cases h : a' = a ∧ b' = b
        · rw [if_pos ⟨h.1.symm, h.2.symm⟩, if_pos h]
        · rw [if_neg (fun e => h ⟨e.1.symm, e.2.symm⟩), if_neg h]
theorem getC_gt {b : Int} {cs : List Ci} (h : ∀ y ∈ cs, ltC a b y.a y.b) : getC a b cs = none := (none_later h).1
theorem getC_del (a b : Int) : ∀ (cs : List Ci), Srt cs → ∀ a' b', getC a' b' (delC a b cs) = if a' = a ∧ b' = b then none else getC a' b' cs
  | [], _, a', b' => by simp only [delC, getC]; split <;> rfl
  | c :: l, hs, a', b' => by
    have hs2 := List.pairwise_cons.1 hs
    have ih := getC_del a b l hs2.2 a' b'
    simp only [delC]
    split
    · rename_i he
      by_cases h : a' = a ∧ b' = b
      · rw [if_pos h]
        exact getC_gt (fun y hy => by have := hs2.1 y hy; rw [h.1, h.2, ← he.1, ← he.2]; exact this)
      · rw [if_neg h]; simp only [getC]
        rw [if_neg (fun e => h ⟨by omega, by omega⟩)]
    · rename_i he
      simp only [getC]
      rw [ih]
      by_cases h : a' = a ∧ b' = b
      · rw [if_pos h, if_pos h, if_neg (fun e => he ⟨by omega, by omega⟩)]
      · rw [if_neg h, if_neg h]
end GV
def sumN (f : Nat → Int) : Nat → Int
  | 0 => 0
  | n + 1 => sumN f n + f n
theorem sumN_eq {f g : Nat → Int} : ∀ {n : Nat}, (∀ i, i < n → f i = g i) → sumN f n = sumN g n
  | 0, _ => rfl
  | n + 1, h => by simp only [sumN]; rw [sumN_eq (fun i hi => h i (by omega)), h n (by omega)]
theorem sumN_one {f g : Nat → Int} {a : Nat} : ∀ {n : Nat}, a < n → (∀ i, i < n → i ≠ a → g i = f i) → sumN g n = sumN f n - f a + g a
  | 0, h, _ => by omega
  | n + 1, h, h2 => by
    simp only [sumN]
    by_cases e : a = n
    · subst e; rw [sumN_eq (f := g) (g := f) (fun i hi => h2 i (by omega) (by omega))]; omega
    · rw [sumN_one (f := f) (g := g) (n := n) (by omega) (fun i hi => h2 i (by omega)), h2 n (by omega) (by omega)]; omega
theorem sumN_0 {f : Nat → Int} : ∀ {n : Nat}, (∀ i, i < n → f i = 0) → sumN f n = 0
  | 0, _ => rfl
  | n + 1, h => by simp only [sumN]; rw [sumN_0 (fun i hi => h i (by omega)), h n (by omega)]; rfl
def lentO (x : Option DelS) (a : Int) : Wgt := match x with
  | some D => if D.to = a then Wgt.mk (cvVotes D.n D.level) D.n else Wgt.mk 0 0
  | none => Wgt.mk 0 0
def lent (s : VS) (t : Int) (a : Int) (d : Nat) : Wgt := lentO (s.rc (d : Int) t).d a
def wsum (s : VS) (t a : Int) (n : Nat) : Wgt := ⟨w64 (sumN (fun d => (lent s t a d).v) n), w64 (sumN (fun d => (lent s t a d).c) n)⟩
def gk (s : VS) (k t : Int) (a : Nat) : Tly := match GV.getC (a : Int) k s.cs with
  | some v => gainT v (s.rc (a : Int) t).got
  | none => Tly.zero
def tsum (s : VS) (k t : Int) (n : Nat) : Tly := ⟨w64 (sumN (fun a => (gk s k t a).a) n), w64 (sumN (fun a => (gk s k t a).n) n), w64 (sumN (fun a => (gk s k t a).s) n)⟩
structure CInv (s : VS) : Prop where
  got : ∀ a t : Int, 0 ≤ a ∧ a ≤ 9 → 0 ≤ t ∧ t ≤ 3 → (s.rc a t).got = wsum s t a 10
  tal : ∀ (k : Nat) (q : PollS), s.ps[k]? = some (some q) → q.state = 0 → q.t = tsum s (k : Int) q.track 10
theorem Wgt.ext2 {x y : Wgt} (h1 : x.v = y.v) (h2 : x.c = y.c) : x = y := by cases x; cases y; simp only at h1 h2; rw [h1, h2]
theorem Tly.ext2 {x y : Tly} (h1 : x.a = y.a) (h2 : x.n = y.n) (h3 : x.s = y.s) : x = y := by cases x; cases y; simp only at h1 h2 h3; rw [h1, h2, h3]
theorem lent_eq (h : ∀ x y, (s'.rc x y).d = (s.rc x y).d) (t a : Int) (d : Nat) : lent s' t a d = lent s t a d := by unfold lent; rw [h]
theorem wsum_eq (h : ∀ d, d < 10 → lent s' t a d = lent s t a d) : wsum s' t a 10 = wsum s t a 10 := by
  unfold wsum
  rw [sumN_eq (f := fun d => (lent s' t a d).v) (g := fun d => (lent s t a d).v) (fun i hi => by show (lent s' t a i).v = _; rw [h i hi]), sumN_eq (f := fun d => (lent s' t a d).c) (g := fun d => (lent s t a d).c) (fun i hi => by show (lent s' t a i).c = _; rw [h i hi])]
theorem tsum_eq (h : ∀ a, a < 10 → gk s' k t a = gk s k t a) : tsum s' k t 10 = tsum s k t 10 := by
  unfold tsum
  rw [sumN_eq (f := fun a => (gk s' k t a).a) (g := fun a => (gk s k t a).a) (fun i hi => by show (gk s' k t i).a = _; rw [h i hi]), sumN_eq (f := fun a => (gk s' k t a).n) (g := fun a => (gk s k t a).n) (fun i hi => by show (gk s' k t i).n = _; rw [h i hi]),
    sumN_eq (f := fun a => (gk s' k t a).s) (g := fun a => (gk s k t a).s) (fun i hi => by show (gk s' k t i).s = _; rw [h i hi])]
theorem tsum_one {b : Nat} (hb : b < 10) (h : ∀ a, a < 10 → a ≠ b → gk s' k t a = gk s k t a) : tsum s' k t 10 = addT (subT (tsum s k t 10) (gk s k t b)) (gk s' k t b) := by
  have e : ∀ (p : Tly → Int), sumN (fun a => p (gk s' k t a)) 10 = sumN (fun a => p (gk s k t a)) 10 - p (gk s k t b) + p (gk s' k t b) := fun p => sumN_one (f := fun a => p (gk s k t a)) (g := fun a => p (gk s' k t a)) hb (fun i hi hne => by show p _ = p _; rw [h i hi hne])
  have h1 := e Tly.a
  have h2 := e Tly.n
  have h3 := e Tly.s
  unfold tsum addT subT addT negT
  rw [h1, h2, h3]
  refine Tly.ext2 ?_ ?_ ?_ <;> (show w64 _ = w64 _; simp only [w64_eq]; omega)
theorem CInv.same (h : CInv s) (h1 : s'.ps = s.ps) (h2 : s'.cs = s.cs) (h3 : ∀ x y, (s'.rc x y).d = (s.rc x y).d) (h4 : ∀ x y, (s'.rc x y).got = (s.rc x y).got) : CInv s' := by
  refine ⟨fun a t ha ht => ?_, fun k q hk hs => ?_⟩
  · rw [h4, h.got a t ha ht]; exact (wsum_eq (fun d _ => lent_eq h3 t a d)).symm
  · rw [h1] at hk
    rw [h.tal k q hk hs]
    exact (tsum_eq (fun a _ => by unfold gk; rw [h2, h4])).symm
theorem updR_at {rc : Int → Int → RecS} {r : RecS} (h1 : r.d = (rc a t).d) (h2 : r.got = (rc a t).got) (x y : Int) : (updR rc a t r x y).d = (rc x y).d ∧ (updR rc a t r x y).got = (rc x y).got := by
  unfold updR
  split
  · rename_i e; rw [e.1, e.2]; exact ⟨h1, h2⟩
  · exact ⟨rfl, rfl⟩
theorem updR_got {rc : Int → Int → RecS} {r : RecS} (h2 : r.got = (rc a t).got) (x y : Int) : (updR rc a t r x y).got = (rc x y).got := by
  unfold updR
  split
  · rename_i e; rw [e.1, e.2]; exact h2
  · rfl
theorem addT_0 (x : Tly) (a n s : Int) (h : x = ⟨w64 a, w64 n, w64 s⟩) : addT x Tly.zero = x := by
  subst h; unfold addT Tly.zero
  refine Tly.ext2 ?_ ?_ ?_ <;> (show w64 _ = w64 _; simp only [w64_eq]; omega)
theorem subT_0 (x : Tly) (a n s : Int) (h : x = ⟨w64 a, w64 n, w64 s⟩) : subT x Tly.zero = x := by
  subst h; unfold subT addT negT Tly.zero
  refine Tly.ext2 ?_ ?_ ?_ <;> (show w64 _ = w64 _; simp only [w64_eq]; omega)
theorem gk_no {a : Nat} (h : GV.getC (a : Int) k s.cs = none) : gk s k t a = Tly.zero := by unfold gk; rw [h]
theorem gk_some {a : Nat} {v : Vt} (h : GV.getC (a : Int) k s.cs = some v) : gk s k t a = gainT v (s.rc (a : Int) t).got := by unfold gk; rw [h]
section
variable {s : VS} {xs : List Acc} {now : Int}
theorem cv_open (h : CInv s) (hi : DInv s) (ref t : Int) : CInv (openS s ref t) := by
  unfold openS
  split
  · rename_i he
    unfold openE at he
    split at he
    · cases he
    · rename_i h1
      split at he
      · cases he
      · rename_i h2
        have hr : 0 ≤ ref ∧ ref < 12 := Classical.byContradiction fun h9 => h1 (.inl h9)
        obtain ⟨i, rfl⟩ : ∃ i : Nat, ref = i := ⟨ref.toNat, by omega⟩
        have hl := hi.inv.len
        have hn : s.ps[i]? = some none := by
          have hx : s.ps[i]? = some (s.ps[i]'(by omega)) := List.getElem?_eq_getElem (by omega)
          cases hp : s.ps[i]'(by omega) with
          | none => rw [hx, hp]
          | some q => exact absurd (by unfold pollAt; rw [if_pos hr, Int.toNat_natCast, hx, hp]; rfl) h2
        rw [Int.toNat_natCast]
        refine ⟨h.got, fun k q hk hs => ?_⟩
        have hk : (s.ps.set i (some (PollS.mk t Tly.zero 0 0)))[k]? = some (some q) := hk
        by_cases e : i = k
        · subst e
          rw [List.getElem?_set_self (by omega)] at hk
          simp only [Option.some.injEq] at hk
          subst hk
          have hz : ∀ a : Nat, gk s (i : Int) t a = Tly.zero := fun a => gk_no (by
            cases hg : GV.getC (a : Int) (i : Int) s.cs with
            | none => rfl
            | some v =>
              obtain ⟨c, hc, _, hb, _⟩ := GV.getC_mem hg
              obtain ⟨_, _, _, r, hr⟩ := hi.inv.votes c hc
              rw [hb, Int.toNat_natCast, hn] at hr; cases hr)
          show Tly.zero = tsum s (i : Int) t 10
          unfold tsum
          rw [sumN_0 (f := fun a => (gk s (i : Int) t a).a) (fun a _ => by show (gk s (i : Int) t a).a = 0; rw [hz]; rfl), sumN_0 (f := fun a => (gk s (i : Int) t a).n) (fun a _ => by show (gk s (i : Int) t a).n = 0; rw [hz]; rfl), sumN_0 (f := fun a => (gk s (i : Int) t a).s) (fun a _ => by show (gk s (i : Int) t a).s = 0; rw [hz]; rfl)]
          rfl
        · rw [List.getElem?_set_ne e] at hk
          exact h.tal k q hk hs
  · exact h
theorem CInv.shut (h : CInv s) {i : Nat} {q' : PollS} (hq : q'.state ≠ 0) : CInv (s.setP i q') := by
  refine ⟨h.got, fun k q hk hs => ?_⟩
  have hk : (s.ps.set i (some q'))[k]? = some (some q) := hk
  by_cases e : i = k
  · subst e
    have hl : i < (s.ps.set i (some q')).length := (List.getElem?_eq_some_iff.1 hk).1
    rw [List.getElem?_set_self (by rw [List.length_set] at hl; exact hl)] at hk
    simp only [Option.some.injEq] at hk
    subst hk; exact absurd hs hq
  · rw [List.getElem?_set_ne e] at hk
    exact h.tal k q hk hs
theorem cv_close (h : CInv s) (ref st e : Int) : CInv (closeS s ref st e) := by
  unfold closeS
  split
  · exact h
  · rename_i q hq
    split
    · rename_i he
      refine h.shut ?_
      show st ≠ 0
      intro e0
      unfold closeE at he
      rw [hq] at he; dsimp only at he
      split at he
      · cases he
      · rw [if_pos (by omega)] at he; cases he
    · exact h
theorem CInv.vote (h : CInv s) {who : Int} {i : Nat} {q : PollS} (hw : 0 ≤ who ∧ who ≤ 9) (hp : s.ps[i]? = some (some q)) (hs : q.state = 0) {T : Tly} (h1 : s'.ps = s.ps.set i (some { q with t := T })) (h2 : ∀ x y, (s'.rc x y).d = (s.rc x y).d) (h3 : ∀ x y, (s'.rc x y).got = (s.rc x y).got)
    (h4 : ∀ x y, ¬ (x = who ∧ y = (i : Int)) → GV.getC x y s'.cs = GV.getC x y s.cs) (h5 : ∀ b : Nat, who = (b : Int) → T = addT (subT q.t (gk s (i : Int) q.track b)) (gk s' (i : Int) q.track b)) : CInv s' := by
  obtain ⟨b, rfl⟩ : ∃ b : Nat, who = b := ⟨who.toNat, by omega⟩
  have hgk : ∀ (k t : Int) (a : Nat), ¬ ((a : Int) = (b : Int) ∧ k = (i : Int)) → gk s' k t a = gk s k t a := fun k t a hne => by unfold gk; rw [h4 _ _ hne, h3]
  refine ⟨fun a t ha ht => ?_, fun k r hk hr => ?_⟩
  · rw [h3, h.got a t ha ht]; exact (wsum_eq (fun d _ => lent_eq h2 t a d)).symm
  · rw [h1] at hk
    by_cases e : i = k
    · subst e
      rw [List.getElem?_set_self (List.getElem?_eq_some_iff.1 hp).1] at hk
      simp only [Option.some.injEq] at hk
      subst hk
      show T = tsum s' (i : Int) q.track 10
      rw [tsum_one (s := s) (b := b) (by omega) (fun a _ hne => hgk _ _ a (by omega)), ← h.tal i q hp hs]
      exact h5 b rfl
    · rw [List.getElem?_set_ne e] at hk
      rw [h.tal k r hk hr]
      exact (tsum_eq (fun a _ => hgk _ _ a (by omega))).symm
theorem cv_vote (h : CInv s) (hi : DInv s) (who ref : Int) (x : Vt) : CInv (voteS xs s who ref x) := by
  by_cases he : voteE xs s who ref x = 0
  · obtain ⟨h1, h2, q, hq, hs, _, hf⟩ := voteE_ok he
    obtain ⟨i, rfl, _, hp⟩ := pollAt_some hq
    unfold voteS
    rw [if_pos he, hq]; dsimp only
    rw [Int.toNat_natCast]
    have hset := GV.getC_set who (i : Int) x s.cs hi.srt
    refine h.vote (q := q) h1 hp hs (T := voteT s who (i : Int) x q) rfl (fun _ _ => rfl) (fun _ _ => rfl) (fun a b hne => by show GV.getC a b (GV.setC who (i : Int) x s.cs) = _; rw [hset, if_neg hne]) (fun b hb => ?_)
    subst hb
    have e2 : gk (VS.mk (s.ps.set i (some { q with t := voteT s (b : Int) (i : Int) x q })) (GV.setC (b : Int) (i : Int) x s.cs) s.rc) (i : Int) q.track b = gainT x (s.rc (b : Int) q.track).got := gk_some (by show GV.getC _ _ (GV.setC _ _ _ _) = _; rw [hset, if_pos ⟨rfl, rfl⟩])
    refine Eq.trans ?_ (congrArg (addT _) e2.symm)
    unfold voteT
    cases hg : GV.getC (b : Int) (i : Int) s.cs with
    | none =>
      rw [if_neg (by decide), gk_no hg, subT_0 _ _ _ _ (h.tal i q hp hs)]
    | some v => rw [if_pos (show (some v).isSome = true from rfl), gk_some hg]; rfl
  · rw [voteS_err he]; exact h
theorem joinR_got (r : RecS) (u n e : Int) : (joinR r u n e).got = r.got := by unfold joinR; split <;> rfl
theorem cv_unvote (h : CInv s) (hi : DInv s) (who ref e : Int) : CInv (unvS s who ref e) := by
  unfold unvS
  split
  · rename_i he
    split
    · exact h
    · rename_i q hq
      obtain ⟨i, rfl, _, hp⟩ := pollAt_some hq
      have hw : 0 ≤ who ∧ who ≤ 9 := by
        unfold unvE at he
        split at he
        · cases he
        · rename_i h9; exact Classical.byContradiction h9
      have hsm : (GV.getC who (i : Int) s.cs).isSome = true := by
        unfold unvE at he
        rw [if_neg (fun h9 => h9 hw), hq] at he; dsimp only at he
        split at he
        · assumption
        · cases he
      obtain ⟨v, hg⟩ := Option.isSome_iff_exists.1 hsm
      have hdel := GV.getC_del who (i : Int) s.cs hi.srt
      rw [Int.toNat_natCast, hg]
      have hshut : ∀ {s' : VS}, ¬ q.state = 0 → s'.ps = s.ps → s'.cs = GV.delC who (i : Int) s.cs → (∀ x y, (s'.rc x y).d = (s.rc x y).d) → (∀ x y, (s'.rc x y).got = (s.rc x y).got) → CInv s' := fun hs g1 g2 g3 g4 => by
        refine ⟨fun a t ha ht => ?_, fun k r hk hr => ?_⟩
        · rw [g4, h.got a t ha ht]; exact (wsum_eq (fun d _ => lent_eq g3 t a d)).symm
        · rw [g1] at hk
          have hne : k ≠ i := fun e => by subst e; rw [hp] at hk; cases hk; exact hs hr
          rw [h.tal k r hk hr]
          refine (tsum_eq (fun a _ => ?_)).symm
          unfold gk; rw [g2, g4, hdel, if_neg (by omega)]
      split
      · rename_i hs
        refine h.vote (q := q) hw hp hs (T := subT q.t (gainT ((some v).getD Vt.zero) (s.rc who q.track).got)) rfl (fun _ _ => rfl) (fun _ _ => rfl) (fun a b hne => by show GV.getC a b (GV.delC who (i : Int) s.cs) = _; rw [hdel, if_neg hne]) (fun b hb => ?_)
        subst hb
        refine Eq.trans ?_ (congrArg (addT _) (gk_no (s := VS.mk _ (GV.delC (b : Int) (i : Int) s.cs) _) (by show GV.getC _ _ (GV.delC _ _ _) = _; rw [hdel, if_pos ⟨rfl, rfl⟩])).symm)
        rw [gk_some hg]
        exact (addT_0 _ _ _ _ rfl).symm
      · rename_i hs
        split
        · exact hshut hs rfl rfl (fun x y => (updR_at (joinR_d _ _ _ _) (joinR_got _ _ _ _) x y).1) (fun x y => (updR_at (joinR_d _ _ _ _) (joinR_got _ _ _ _) x y).2)
        · exact hshut hs rfl rfl (fun _ _ => rfl) (fun _ _ => rfl)
  · exact h
theorem retally_off (was new : Wgt) : ∀ (l : List (Int × Vt)) (s : VS) (k : Nat),(∀ c ∈ l, c.1.toNat ≠ k) → (retally was new s l).ps[k]? = s.ps[k]?
  | [], _, _, _ => rfl
  | c :: l, s, k, h => by
    show (retally was new (retally1 was new s c) l).ps[k]? = _
    rw [retally_off was new l _ k (fun x hx => h x (List.mem_cons_of_mem _ hx))]
    have hc := h c (List.mem_cons_self ..)
    unfold retally1
    split
    · split
      · show (s.ps.set _ _)[k]? = _
        rw [List.getElem?_set_ne hc]
      · rfl
    · rfl
theorem retally_on (was new : Wgt) : ∀ (l : List (Int × Vt)) (s : VS) (k : Nat) (v : Vt) (q : PollS),(l.Pairwise fun x y => x.1 < y.1) → (∀ c ∈ l, 0 ≤ c.1) → ((k : Int), v) ∈ l → s.ps[k]? = some (some q) →
    (retally was new s l).ps[k]? = some (some (if q.state = 0 then { q with t := addT (subT q.t (gainT v was)) (gainT v new) } else q))
  | [], _, _, _, _, _, _, hm, _ => by cases hm
  | c :: l, s, k, v, q, hp, h0, hm, hq => by
    have hp2 := List.pairwise_cons.1 hp
    show (retally was new (retally1 was new s c) l).ps[k]? = _
    rcases List.mem_cons.1 hm with rfl | hm
    · rw [retally_off was new l _ k (fun x hx => by have h1 := hp2.1 x hx; have h2 := h0 x (List.mem_cons_of_mem _ hx); simp only at h1; omega)]
      unfold retally1
      simp only [Int.toNat_natCast, hq]
      split
      · show (s.ps.set _ _)[k]? = _
        rw [List.getElem?_set_self (List.getElem?_eq_some_iff.1 hq).1]
      · exact hq
    · refine retally_on was new l _ k v q hp2.2 (fun x hx => h0 x (List.mem_cons_of_mem _ hx)) hm ?_
      have h1 := hp2.1 _ hm
      have h2 := h0 c (List.mem_cons_self ..)
      simp only at h1
      unfold retally1
      split
      · split
        · show (s.ps.set _ _)[k]? = _
          rw [List.getElem?_set_ne (by omega)]; exact hq
        · exact hq
      · exact hq
theorem vrow_iff (hi : DInv s) {k : Nat} {q : PollS} (hq : s.ps[k]? = some (some q)) (hk : k < 12) (a t : Int) (v : Vt) : ((k : Int), v) ∈ vrow s a t ↔ q.track = t ∧ GV.getC a (k : Int) s.cs = some v := by
  have ht : trk s (k : Int) = q.track := trk_at (by unfold pollAt; rw [if_pos (by omega), Int.toNat_natCast, hq]; rfl)
  unfold vrow
  rw [List.mem_filter, ← GV.get_row a (k : Int) hi.srt v]
  show _ ∧ (trk s (k : Int) == t) = true ↔ _
  rw [ht, beq_iff_eq]
  exact And.comm
theorem vrow_ge (hi : DInv s) (a t : Int) : ∀ c ∈ vrow s a t, 0 ≤ c.1 := fun c hc => by
  obtain ⟨k, hk⟩ := List.getElem?_of_mem (List.mem_filter.1 hc).1
  obtain ⟨x, hx, _, hb, _⟩ := rowL_mem hk
  have := (hi.inv.votes x hx).2.1
  omega
theorem cv_gets {s0 : VS} (h : CInv s) (hi : DInv s) (h1 : s0.ps = s.ps) (h2 : s0.cs = s.cs) (h3 : ∀ x y, (s0.rc x y).got = (s.rc x y).got) {to t who : Int} {wt : Wgt} (hto : 0 ≤ to ∧ to ≤ 9) (hw : 0 ≤ who ∧ who ≤ 9) (h4 : ∀ x y, ¬ (x = who ∧ y = t) → (s0.rc x y).d = (s.rc x y).d)
    (h5 : ∀ (d : Nat), who = (d : Int) → (∀ a, a ≠ to → lent s0 t a d = lent s t a d) ∧ w64 ((lent s0 t to d).v - (lent s t to d).v) = w64 wt.v ∧ w64 ((lent s0 t to d).c - (lent s t to d).c) = w64 wt.c) : CInv (getsS s0 to t wt) := by
  obtain ⟨d, rfl⟩ : ∃ d : Nat, who = d := ⟨who.toNat, by omega⟩
  obtain ⟨g1, g2, g3⟩ := h5 d rfl
  have hvr : ∀ a u, vrow s0 a u = vrow s a u := fun a u => by unfold vrow; rw [h2]; refine List.filter_congr fun c _ => ?_; unfold trk; rw [h1]
  have hrc : ∀ x y, ((getsS s0 to t wt).rc x y).got = if x = to ∧ y = t then gotW (s.rc to t).got wt else (s.rc x y).got := fun x y => by
    rw [getsS_rc]; unfold updR
    split
    · show gotW (s0.rc to t).got wt = _; rw [h3]
    · exact h3 x y
  have hd : ∀ x y, ((getsS s0 to t wt).rc x y).d = (s0.rc x y).d := getsS_d s0 to t wt
  have hln : ∀ (a u : Int) (j : Nat), ¬ (j = d ∧ u = t) → lent (getsS s0 to t wt) u a j = lent s u a j := fun a u j hne => by unfold lent; rw [hd, h4 _ _ (by omega)]
  have hld : ∀ (a : Int), lent (getsS s0 to t wt) t a d = lent s0 t a d := fun a => by unfold lent; rw [hd]
  refine ⟨fun a u ha hu => ?_, fun k q hk hs => ?_⟩
  · rw [hrc]
    split
    · rename_i e
      rw [e.1, e.2, h.got to t hto (e.2 ▸ hu)]
      have e1 : ∀ p : Wgt → Int, sumN (fun j => p (lent (getsS s0 to t wt) t to j)) 10 = sumN (fun j => p (lent s t to j)) 10 - p (lent s t to d) + p (lent s0 t to d) := fun p => by
        rw [sumN_one (f := fun j => p (lent s t to j)) (g := fun j => p (lent (getsS s0 to t wt) t to j)) (a := d) (by omega) (fun i _ hne => by show p _ = p _; rw [hln to t i (by omega)])]
        show _ + p (lent (getsS s0 to t wt) t to d) = _
        rw [hld]
      have e2 := e1 Wgt.v
      have e3 := e1 Wgt.c
      unfold gotW wsum
      rw [e2, e3]
      refine Wgt.ext2 ?_ ?_
      · show w64 (w64 _ + wt.v) = w64 _
        simp only [w64_eq] at g2 ⊢; omega
      · show w64 (w64 _ + wt.c) = w64 _
        simp only [w64_eq] at g3 ⊢; omega
    · rename_i e
      rw [h.got a u ha hu]
      refine (wsum_eq (fun j _ => ?_)).symm
      by_cases hj : j = d ∧ u = t
      · rw [hj.1, hj.2, hld]; exact g1 a (fun e2 => e ⟨e2, hj.2⟩)
      · exact hln a u j hj
  · have hps : (getsS s0 to t wt).ps = (retally (s0.rc to t).got (gotW (s0.rc to t).got wt) (s0.setR to t { s0.rc to t with got := ⟨w64 ((s0.rc to t).got.v + wt.v), w64 ((s0.rc to t).got.c + wt.c)⟩ }) (vrow s0 to t)).ps := rfl
    rw [hps, hvr, h3] at hk
    have hcs : (getsS s0 to t wt).cs = s.cs := (getsS_cs s0 to t wt).trans h2
    have hgk : ∀ (k u : Int) (a : Nat), ¬ ((a : Int) = to ∧ u = t) → gk (getsS s0 to t wt) k u a = gk s k u a := fun k u a hne => by unfold gk; rw [hcs, hrc, if_neg hne]
    have hlen := hi.inv.len
    by_cases hx : ∃ v, ((k : Int), v) ∈ vrow s to t
    · obtain ⟨v, hv⟩ := hx
      obtain ⟨b, hb⟩ : ∃ b : Nat, to = b := ⟨to.toNat, by omega⟩
      have hk12 : k < 12 := by
        obtain ⟨j, hj⟩ := List.getElem?_of_mem (List.mem_filter.1 hv).1
        obtain ⟨x, hx, _, hb, _⟩ := rowL_mem hj
        have := (hi.inv.votes x hx).2.1
        simp only at hb; omega
      have hq0 : ∃ q0, s.ps[k]? = some (some q0) := by
        obtain ⟨j, hj⟩ := List.getElem?_of_mem (List.mem_filter.1 hv).1
        obtain ⟨x, hx, _, hb, _⟩ := rowL_mem hj
        obtain ⟨r, hr⟩ := (hi.inv.votes x hx).2.2.2
        simp only at hb
        rw [hb, Int.toNat_natCast] at hr; exact ⟨r, hr⟩
      obtain ⟨q0, hq0⟩ := hq0
      obtain ⟨ht, hg⟩ := (vrow_iff hi hq0 hk12 to t v).1 hv
      rw [retally_on _ _ _ _ k v q0 (vrow_srt hi.srt to t) (vrow_ge hi to t) hv (by show s0.ps[k]? = _; rw [h1]; exact hq0)] at hk
      simp only [Option.some.injEq] at hk
      by_cases hs0 : q0.state = 0
      · rw [if_pos hs0] at hk
        subst hk
        show addT (subT q0.t (gainT v (s.rc to t).got)) (gainT v (gotW (s.rc to t).got wt)) = tsum (getsS s0 to t wt) (k : Int) q0.track 10
        subst hb
        rw [tsum_one (s := s) (b := b) (by omega) (fun a _ hne => hgk _ _ a (by omega)), ← h.tal k q0 hq0 hs0, ht, gk_some hg, gk_some (s := getsS s0 (b : Int) t wt) (v := v) (by rw [hcs]; exact hg), hrc, if_pos ⟨rfl, rfl⟩]
      · rw [if_neg hs0] at hk
        subst hk; exact absurd hs hs0
    · rw [retally_off _ _ _ _ k (fun c hc e => hx ⟨c.2, by have h9 := vrow_ge hi to t c hc; rw [show (k : Int) = c.1 by omega]; exact hc⟩)] at hk
      have hk : s.ps[k]? = some (some q) := by rw [← h1]; exact hk
      have hk12 : k < 12 := by have := (List.getElem?_eq_some_iff.1 hk).1; omega
      rw [h.tal k q hk hs]
      refine (tsum_eq (fun a _ => ?_)).symm
      by_cases ha : (a : Int) = to ∧ q.track = t
      · have hn : GV.getC (a : Int) (k : Int) s.cs = none := by
          cases hg : GV.getC (a : Int) (k : Int) s.cs with
          | none => rfl
          | some v => exact absurd ⟨v, (vrow_iff hi hk hk12 to t v).2 ⟨ha.2, by rw [← ha.1]; exact hg⟩⟩ hx
        rw [gk_no hn, gk_no (by rw [hcs]; exact hn)]
      · exact hgk _ _ a ha
theorem cv_setd (h : CInv s) (hi : DInv s) {to t who : Int} {wt : Wgt} {r : RecS} (hr : r.got = (s.rc who t).got) (hto : 0 ≤ to ∧ to ≤ 9) (hw : 0 ≤ who ∧ who ≤ 9)
    (h5 : (∀ a, a ≠ to → lentO r.d a = lentO (s.rc who t).d a) ∧ w64 ((lentO r.d to).v - (lentO (s.rc who t).d to).v) = w64 wt.v ∧ w64 ((lentO r.d to).c - (lentO (s.rc who t).d to).c) = w64 wt.c) : CInv (getsS (s.setR who t r) to t wt) :=
  cv_gets (s0 := s.setR who t r) h hi rfl rfl (fun x y => updR_got hr x y) hto hw (fun x y hxy => by show (updR s.rc who t r x y).d = _; unfold updR; rw [if_neg hxy]) (fun d hd => by
    subst hd
    have e : ∀ a, lent (s.setR (d : Int) t r) t a d = lentO r.d a := fun a => by
      show lentO (updR s.rc (d : Int) t r (d : Int) t).d a = _
      rw [updR_self]
    have e2 : ∀ a, lent s t a d = lentO (s.rc (d : Int) t).d a := fun _ => rfl
    refine ⟨fun a ha => ?_, ?_, ?_⟩
    · rw [e, e2]; exact h5.1 a ha
    · rw [e, e2]; exact h5.2.1
    · rw [e, e2]; exact h5.2.2)
theorem cv_del (h : CInv s) (hi : DInv s) (who t to level n : Int) : CInv (delS xs s who t to level n) := by
  by_cases he : delE xs s who t to level n = 0
  · obtain ⟨h1, h2, _, _, _, hne, hd, _, _⟩ := delE_ok he
    unfold delS
    rw [if_pos he]
    refine cv_setd h hi (by rfl) h2 h1 ?_
    rw [hd]
    refine ⟨fun a ha => ?_, ?_, ?_⟩
    · show (if to = a then _ else _) = _
      rw [if_neg (fun e => ha e.symm)]; rfl
    · show w64 ((if to = to then Wgt.mk (cvVotes n level) n else Wgt.mk 0 0).v - 0) = _
      rw [if_pos rfl, Int.sub_zero]
    · show w64 ((if to = to then Wgt.mk (cvVotes n level) n else Wgt.mk 0 0).c - 0) = _
      rw [if_pos rfl, Int.sub_zero]
  · rw [delS_err he]; exact h
theorem cv_und (h : CInv s) (hi : DInv s) (who t e : Int) : CInv (undS s who t e) := by
  unfold undS
  split
  · rename_i he
    split
    · exact h
    · rename_i d hd
      have hw : 0 ≤ who ∧ who ≤ 9 := by
        unfold undE at he
        split at he
        · cases he
        · rename_i h9; exact Classical.byContradiction fun h8 => h9 (.inl h8)
      obtain ⟨hto, _, _⟩ := hi.inv.dels who t d hd
      have h9 : CInv (undS1 s who t d) := by
        unfold undS1
        refine cv_setd h hi (by rfl) (by omega) hw ?_
        rw [hd]
        refine ⟨fun a ha => ?_, ?_, ?_⟩
        · show _ = (if d.to = a then _ else _)
          rw [if_neg (fun e => ha e.symm)]; rfl
        · show w64 (0 - (if d.to = d.to then Wgt.mk (cvVotes d.n d.level) d.n else Wgt.mk 0 0).v) = w64 (w64 _)
          rw [if_pos rfl]; simp only [w64_eq]; omega
        · show w64 (0 - (if d.to = d.to then Wgt.mk (cvVotes d.n d.level) d.n else Wgt.mk 0 0).c) = w64 (w64 _)
          rw [if_pos rfl]; simp only [w64_eq]; omega
      exact h9.same rfl rfl (fun x y => (updR_at (joinR_d _ _ _ _) (joinR_got _ _ _ _) x y).1) (fun x y => (updR_at (joinR_d _ _ _ _) (joinR_got _ _ _ _) x y).2)
  · exact h
theorem cv_unlock (h : CInv s) (who t e : Int) : CInv (unlS s who t e) := by
  unfold unlS
  split
  · have e1 : (unlR (s.rc who t) e).d = (s.rc who t).d := by unfold unlR; split <;> rfl
    have e2 : (unlR (s.rc who t) e).got = (s.rc who t).got := by unfold unlR; split <;> rfl
    exact h.same rfl rfl (fun x y => (updR_at e1 e2 x y).1) (fun x y => (updR_at e1 e2 x y).2)
  · exact h
theorem cv_act (h : CInv s) (hi : DInv s) (z : Av) : CInv (actS z now s xs) := by
  unfold actS
  by_cases h1 : z.k = 1
  · simp only [if_pos h1]; exact cv_open h hi _ _
  simp only [if_neg h1]
  by_cases h2 : z.k = 2
  · simp only [if_pos h2]; exact cv_close h _ _ _
  simp only [if_neg h2]
  by_cases h3 : z.k = 3
  · simp only [if_pos h3]; exact cv_vote h hi _ _ _
  simp only [if_neg h3]
  by_cases h4 : z.k = 4
  · simp only [if_pos h4]; exact cv_unvote h hi _ _ _
  simp only [if_neg h4]
  by_cases h5 : z.k = 5
  · simp only [if_pos h5]; exact cv_del h hi _ _ _ _ _
  simp only [if_neg h5]
  by_cases h6 : z.k = 6
  · simp only [if_pos h6]; exact cv_und h hi _ _ _
  simp only [if_neg h6]
  by_cases h7 : z.k = 7
  · simp only [if_pos h7]; exact cv_unlock h _ _ _
  simp only [if_neg h7]; exact h
end
theorem cv_new : CInv VS.zero := by
  refine ⟨fun a t _ _ => ?_, fun k q hk => ?_⟩
  · have hz : ∀ d, lent VS.zero t a d = ⟨0, 0⟩ := fun d => rfl
    unfold wsum
    rw [sumN_0 (f := fun d => (lent VS.zero t a d).v) (fun d _ => rfl), sumN_0 (f := fun d => (lent VS.zero t a d).c) (fun d _ => rfl)]
    rfl
  · have h9 := List.mem_of_getElem? hk
    have : ∀ x ∈ VS.zero.ps, x = none := by decide
    cases this _ h9
end Go.Al
namespace Go.Al
open Go Go.RowKit Go.Proofs
theorem deleg_all (F : Nat → Prop) (v : Nat) (s : VS) (a t : Int) (w : World) (h : VotT F w v s) : Calls Tryz.prog 30 #[pt v, nt a, nt t] w fun e w' => e = .returned (.tuple #[nt (dTo (s.rc a t)), nt (dLv (s.rc a t)), nt (dN (s.rc a t)), .bool (s.rc a t).d.isSome]) ∧ (∃ F', VotT F' w' v s ∧ (∀ q, F' q → F q ∨ w.heap.size ≤ q)) ∧ Keep F w w' := by
  have h9 := delegating_specT F v s a t w h
  unfold delT at h9
  unfold dTo dLv dN
  cases hd : (s.rc a t).d with
  | none => rw [hd] at h9; exact h9
  | some D => rw [hd] at h9; exact h9
end Go.Al
namespace Go.Al
open Go Go.RowKit Go.Proofs
theorem Pl.di {B : Nat → Prop} {w : World} {b : Nat} {s : VS} {xs : List Acc} {cs : List Ci} {now : Int} (h : Pl B w b s xs cs now) : DInv s ∧ Inv xs := by
  obtain ⟨_, _, F, G, H, I, v, l, x, y, hp⟩ := h
  exact ⟨hp.hy.dinv, Led.inv hp.hl⟩
theorem voteC_len (xs : List Acc) (cs : List Ci) (s : VS) (who ref : Int) (x : Vt) : (voteC xs cs s who ref x).length ≤ cs.length + 1 := by
  unfold voteC
  split
  · split
    · omega
    · exact raiseC_len _ _ _ _
  · omega
theorem delC2_len (xs : List Acc) (cs : List Ci) (s : VS) (who t to level n : Int) : (delC2 xs cs s who t to level n).length ≤ cs.length + 1 := by
  unfold delC2
  split
  · exact raiseC_len _ _ _ _
  · omega
theorem unlC_len (cs : List Ci) (s : VS) (who t now : Int) : (unlC cs s who t now).length ≤ cs.length + 1 := by
  unfold unlC
  split
  · exact lockC_len _ _ _ _
  · omega
theorem actC_len (z : Av) (now : Int) (s : VS) (xs : List Acc) (cs : List Ci) : (actC z now s xs cs).length ≤ cs.length + 1 := by
  unfold actC
  repeat' split
  all_goals first | omega | exact voteC_len _ _ _ _ _ _ | exact delC2_len _ _ _ _ _ _ _ _ | exact unlC_len _ _ _ _ _
theorem lift_int (x : List Value) (h : Flat [.int .i64] x) : ∃ y : Int, intc y = x := by
  cases x with
  | nil => exact h.elim
  | cons v l =>
    cases l with
    | nil => obtain ⟨⟨n, rfl, _⟩, _⟩ := h; exact ⟨n, rfl⟩
    | cons u l => exact h.2.elim
end Go.Al
namespace Go.Al
open Go Go.RowKit Go.Proofs
variable {T : Tly} {c : Int × Vt} {g : Wgt} {i : Nat} {k : Int} {l : List (Int × Vt)} {s : VS}
theorem lent_at (s : VS) (t a : Int) (d : Nat) : lent s t a d = if (s.rc (d : Int) t).d.isSome = true ∧ dTo (s.rc (d : Int) t) = a then Wgt.mk (cvVotes (dN (s.rc (d : Int) t)) (dLv (s.rc (d : Int) t))) (dN (s.rc (d : Int) t)) else Wgt.mk 0 0 := by
  unfold lent lentO dTo dLv dN
  cases (s.rc (d : Int) t).d with
  | none => rw [if_neg (fun h => by cases h.1)]
  | some D =>
    show (if D.to = a then _ else _) = if true = true ∧ D.to = a then _ else _
    by_cases h : D.to = a
    · rw [if_pos h, if_pos ⟨rfl, h⟩]; rfl
    · rw [if_neg h, if_neg (fun e => h e.2)]
theorem dLv_ok (hi : s.Inv) (a t : Int) : 0 ≤ dLv (s.rc a t) ∧ dLv (s.rc a t) ≤ 6 := by
  unfold dLv
  cases hd : (s.rc a t).d with
  | none => exact ⟨Int.le_refl _, (by decide : (0 : Int) ≤ 6)⟩
  | some D => exact (hi.dels a t D hd).2.1
theorem ws_yes {s : VS} {t a wv wc : Int} {d : Nat} (h : Wgt.mk wv wc = wsum s t a d) (h1 : (s.rc (d : Int) t).d.isSome = true) (h2 : dTo (s.rc (d : Int) t) = a) :
    Wgt.mk (i64.wrap (wv + cvVotes (dN (s.rc (d : Int) t)) (dLv (s.rc (d : Int) t)))) (i64.wrap (wc + dN (s.rc (d : Int) t))) = wsum s t a (d + 1) := by
  have e := lent_at s t a d
  rw [if_pos ⟨h1, h2⟩] at e
  have hv : wv = w64 (sumN (fun d => (lent s t a d).v) d) := congrArg Wgt.v h
  have hc : wc = w64 (sumN (fun d => (lent s t a d).c) d) := congrArg Wgt.c h
  unfold wsum
  refine Wgt.ext2 ?_ ?_
  · show w64 (wv + _) = w64 (_ + (lent s t a d).v)
    rw [e, hv]; simp only [w64_eq]; omega
  · show w64 (wc + _) = w64 (_ + (lent s t a d).c)
    rw [e, hc]; simp only [w64_eq]; omega
theorem ws_no {t a wv wc : Int} {d : Nat} (h : Wgt.mk wv wc = wsum s t a d) (hn : ¬ ((s.rc (d : Int) t).d.isSome = true ∧ dTo (s.rc (d : Int) t) = a)) : Wgt.mk wv wc = wsum s t a (d + 1) := by
  have e := lent_at s t a d
  rw [if_neg hn] at e
  rw [h]; unfold wsum
  refine Wgt.ext2 ?_ ?_
  · show w64 _ = w64 (_ + (lent s t a d).v)
    rw [e]; show w64 _ = w64 (_ + 0); rw [Int.add_zero]
  · show w64 _ = w64 (_ + (lent s t a d).c)
    rw [e]; show w64 _ = w64 (_ + 0); rw [Int.add_zero]
theorem ws_0 (s : VS) (t a : Int) : Wgt.mk 0 0 = wsum s t a 0 := rfl
theorem ts_0 (s : VS) (k t : Int) : Tly.zero = tsum s k t 0 := rfl
def cf (k : Int) (g : Wgt) (T : Tly) (l : List (Int × Vt)) : Tly := l.foldl (fun T c => if c.1 = k then addT T (gainT c.2 g) else T) T
theorem cf_step (h : l[i]? = some c) : cf k g T (l.take (i + 1)) = if c.1 = k then addT (cf k g T (l.take i)) (gainT c.2 g) else cf k g T (l.take i) := by
  obtain ⟨h1, rfl⟩ := List.getElem?_eq_some_iff.1 h
  unfold cf
  rw [List.take_succ_eq_append_getElem h1, List.foldl_append]; rfl
theorem cf_yes {T2 : Tly} (h : l[i]? = some c) (hc : c.1 = k) (hT : T2 = cf k g T (l.take i)) : addT T2 (gainT c.2 g) = cf k g T (l.take (i + 1)) := by rw [cf_step h, if_pos hc, hT]
theorem cf_no {T2 : Tly} (h : l[i]? = some c) (hc : ¬ c.1 = k) (hT : T2 = cf k g T (l.take i)) : T2 = cf k g T (l.take (i + 1)) := by rw [cf_step h, if_neg hc, hT]
theorem cf_out {k : Int} {g : Wgt} : ∀ {l : List (Int × Vt)} {T : Tly}, (∀ c ∈ l, c.1 ≠ k) → cf k g T l = T
  | [], _, _ => rfl
  | c :: l, T, h => by
    show cf k g (if c.1 = k then _ else T) l = T
    rw [if_neg (h c (List.mem_cons_self ..))]
    exact cf_out (fun x hx => h x (List.mem_cons_of_mem _ hx))
theorem cf_in {k : Int} {g : Wgt} {v : Vt} : ∀ {l : List (Int × Vt)} {T : Tly}, (l.Pairwise fun x y => x.1 < y.1) → (k, v) ∈ l → cf k g T l = addT T (gainT v g)
  | [], _, _, h => by cases h
  | c :: l, T, hp, h => by
    have hp2 := List.pairwise_cons.1 hp
    show cf k g (if c.1 = k then _ else T) l = _
    rcases List.mem_cons.1 h with rfl | h
    · rw [if_pos rfl]
      exact cf_out (fun x hx => by have := hp2.1 x hx; simp only at this; omega)
    · rw [if_neg (by have := hp2.1 _ h; simp only at this; omega)]
      exact cf_in hp2.2 h
theorem ts_step (hi : DInv s) {k : Nat} {q : PollS} (hq : s.ps[k]? = some (some q)) {a : Nat} (hT : T = tsum s (k : Int) q.track a) : cf (k : Int) (s.rc (a : Int) q.track).got T (vrow s (a : Int) q.track) = tsum s (k : Int) q.track (a + 1) := by
  have hk : k < 12 := by have h1 := (List.getElem?_eq_some_iff.1 hq).1; have h2 := hi.inv.len; omega
  have e : ∀ p : Tly → Int, sumN (fun a => p (gk s (k : Int) q.track a)) (a + 1) = sumN (fun a => p (gk s (k : Int) q.track a)) a + p (gk s (k : Int) q.track a) := fun p => rfl
  subst hT
  cases hg : GV.getC (a : Int) (k : Int) s.cs with
  | none =>
    rw [cf_out (fun c hc hk2 => by
      have h9 : ((k : Int), c.2) ∈ vrow s (a : Int) q.track := by rw [← hk2]; exact hc
      have h8 := ((vrow_iff hi hq hk (a : Int) q.track c.2).1 h9).2
      rw [hg] at h8; cases h8)]
    have hz := gk_no (t := q.track) hg
    unfold tsum
    refine Tly.ext2 ?_ ?_ ?_
    · show w64 _ = w64 (_ + (gk s (k : Int) q.track a).a)
      rw [hz]; show w64 _ = w64 (_ + 0); rw [Int.add_zero]
    · show w64 _ = w64 (_ + (gk s (k : Int) q.track a).n)
      rw [hz]; show w64 _ = w64 (_ + 0); rw [Int.add_zero]
    · show w64 _ = w64 (_ + (gk s (k : Int) q.track a).s)
      rw [hz]; show w64 _ = w64 (_ + 0); rw [Int.add_zero]
  | some v =>
    rw [cf_in (vrow_srt hi.srt _ _) ((vrow_iff hi hq hk (a : Int) q.track v).2 ⟨rfl, hg⟩)]
    have hz := gk_some (t := q.track) hg
    unfold tsum addT
    refine Tly.ext2 ?_ ?_ ?_
    · show w64 (w64 _ + _) = w64 (_ + (gk s (k : Int) q.track a).a)
      rw [hz]; simp only [w64_eq]; omega
    · show w64 (w64 _ + _) = w64 (_ + (gk s (k : Int) q.track a).n)
      rw [hz]; simp only [w64_eq]; omega
    · show w64 (w64 _ + _) = w64 (_ + (gk s (k : Int) q.track a).s)
      rw [hz]; simp only [w64_eq]; omega
theorem tal_is (hc : CInv s) (hi : DInv s) {k : Nat} {q : PollS} (hq : s.ps[k]? = some (some q)) (hs : q.state = 0) (hT : T = tsum s (k : Int) q.track 10) : T = tallyT s (k : Int) := by
  have hk : k < 12 := by have h1 := (List.getElem?_eq_some_iff.1 hq).1; have h2 := hi.inv.len; omega
  have h9 : pollAt s (k : Int) = some q := by unfold pollAt; rw [if_pos (by omega), Int.toNat_natCast, hq]; rfl
  unfold tallyT
  rw [h9, hT]; exact (hc.tal k q hq hs).symm
set_option maxHeartbeats 1000000 in
theorem recount_spec (F : Nat → Prop) (v : Nat) (s : VS) (k0 : Nat) (q0 : PollS) (w : World) (h : VotT F w v s) (hc : CInv s) (hi : DInv s) (hq : s.ps[k0]? = some (some q0)) (hs : q0.state = 0) (htk : 0 ≤ q0.track ∧ q0.track < 4) : Calls Tryz.prog 37 #[pt v, nt (k0 : Int), nt q0.track] w fun e w' => e = .returned (.tuple #[.agg (Tly.cells (tallyT s (k0 : Int))).toArray, .bool true]) ∧ (∃ F', VotT F' w' v s ∧ (∀ q, F' q → F q ∨ w.heap.size ≤ q)) ∧ Keep F w w' := by
 have hFlt := VotT.lt h
 have hvlt := hFlt _ (VotT.at_ h)
 have hFo : ∀ q, F q → 0 ≤ q := fun q _ => Nat.zero_le q
 have hFr : ∀ q, F q → F q ∨ w.heap.size ≤ q := fun _ h => .inl h
 have hK0 := Keep.refl F w
 refine enterM Tryz.func37 rfl [pt v, nt (k0 : Int), nt q0.track] 96 rfl rfl rfl ?_
 refine Vp [(0, pt v),(1, nt (k0 : Int)),(2, nt q0.track)] <| Vr <| Alc_ 43 (.agg #[nt 0, nt 0, nt 0]) [nt 0, nt 0, nt 0] ?_
 intro b1 w1 e1 hb1 k1 z1
 have hsz2 := Keep.size k1
 replace h := h.keep k1 nk
 replace hK0 := hK0.tn k1
 have hb1lt := hb1.lt
 refine On 2 [0, 1, 2, 6] <| Oer <| On 1 [0, 1, 2, 6, 19] <| Alc_ 43 (.agg #[nt 0, nt 0, nt 0]) [nt 0, nt 0, nt 0] ?_
 intro b3 w3 e3 hb3 k3 z3
 have hsz4 := Keep.size k3
 replace hb1 := hb1.k0 k3
 replace h := h.keep k3 nk
 replace hK0 := hK0.tn k3
 have hb3lt := hb3.lt
 refine OI_set (m := 3) (kd := true) 43 (.tmp 8) (.tmp 19) 0 (.agg #[nt 0, nt 0, nt 0]) [nt 0, nt 0, nt 0] none (by kernel_rfl) (by kernel_rfl) (by kernel_rfl) hb3 (by kernel_rfl) (by kernel_rfl) (by kernel_rfl) (Nat.le_of_ble_eq_true (by kernel_rfl)) (by simp [Value.oneCell']) ?_
 intro w5 hb3_8 hk6 hz7
 replace hb3_8 : Blk w5 b3 [nt 0, nt 0, nt 0] 43 := hb3_8
 have hsz9 := Keep.size hk6
 replace hb1 := hb1.k1 hk6
 replace h := h.keep hk6 (fun q hq hs => by have hs : q = b3 := hs; have g0 := hFo q hq; have g1 := hFlt q hq; omega)
 replace hK0 := Keep.fr hK0 hk6
 refine Oe <| V_seq <| Vn [0, 1, 2, 6, 8, 9] <| V_block ?_
 have hgb1 : w.heap.size ≤ b1 := by omega
 have hgb3 : w.heap.size ≤ b3 := by omega
 refine Vp [(0, pt v),(1, nt (k0 : Int)),(2, nt q0.track),(6, pt b1),(8, pt b3),(9, nt 0)] <| V_loop (fun k wI e => ∃ a : Nat, ∃ T : Tly, ∃ F10 : Nat → Prop, (k + a = 10) ∧ (T = tsum s (k0 : Int) q0.track a) ∧ (VotT F10 wI v s) ∧ (∀ q, F10 q → 0 ≤ q ∧ q ≠ b1 ∧ q ≠ b3) ∧ (∀ q, F10 q → F q ∨ w.heap.size ≤ q) ∧ (Blk wI b1 [nt 0, nt 0, nt 0] 43) ∧ (Blk wI b3 (Tly.cells T) 43) ∧ (Keep F w wI) ∧ e = [(0, pt v),(1, nt (k0 : Int)),(2, nt q0.track),(6, pt b1),(8, pt b3),(9, nt (a : Int))]) 10 ⟨0, Tly.zero, F, by omega, ts_0 _ _ _, h, (fun q hq => by have h1 := hFo q hq; have h2 := hFlt q hq; omega), hFr, hb1, hb3_8, hK0, rfl⟩ ?_
 rintro k18 w17 _ ⟨a, T, F10, hka, hT, ho11, ow12, rl13, hb15, hb16, hk14, rfl⟩
 have hzhk14 := Keep.size hk14
 have lt20 := VotT.lt ho11
 have hvlt := lt20 _ (VotT.at_ ho11)
 have hb1lt := hb15.lt
 have hb3lt := hb16.lt
 refine V_seq <| Vn [0, 1, 2, 6, 8, 9, 21] <| Vi ((a : Int) < 10) (fun hc21 => ?_) (fun hc21 => ?_)
 ·
  refine Vsk <| V_seq <| V_block <| Vr <| On 1 [0, 1, 2, 6, 8, 9, 24] <| Alc_ 54 (.agg #[nt 0, nt 0]) [nt 0, nt 0] ?_
  intro b22 w22 e22 hb22 k22 z22
  have hsz23 := Keep.size k22
  replace hb15 := hb15.k0 k22
  replace hb16 := hb16.k0 k22
  replace ho11 := ho11.keep k22 nk
  replace hk14 := hk14.tn k22
  have hb22lt := hb22.lt
  refine OI_set (m := 2) (kd := true) 54 (.tmp 10) (.tmp 24) 0 (.agg #[nt 0, nt 0]) [nt 0, nt 0] none (by kernel_rfl) (by kernel_rfl) (by kernel_rfl) hb22 (by kernel_rfl) (by kernel_rfl) (by kernel_rfl) (Nat.le_of_ble_eq_true (by kernel_rfl)) (by simp [Value.oneCell']) ?_
  intro w24 hb22_27 hk25 hz26
  replace hb22_27 : Blk w24 b22 [nt 0, nt 0] 54 := hb22_27
  have hsz28 := Keep.size hk25
  replace hb15 := hb15.k1 hk25
  replace hb16 := hb16.k1 hk25
  replace ho11 := ho11.keep hk25 (fun q hq hs => by have hs : q = b22 := hs; have g0 := ow12 q hq; have g1 := lt20 q hq; omega)
  replace hk14 := Keep.fr hk14 hk25
  refine Oe <| V_seq <| Vn [0, 1, 2, 6, 8, 9, 10, 11] <| V_block ?_
  have hgb22 : w.heap.size ≤ b22 := by omega
  refine Vp [(0, pt v),(1, nt (k0 : Int)),(2, nt q0.track),(6, pt b1),(8, pt b3),(9, nt (a : Int)),(10, pt b22),(11, nt 0)] <| V_loop (fun k wI e => ∃ d : Nat, ∃ wv : Int, ∃ wc : Int, ∃ F29 : Nat → Prop, (k + d = 10) ∧ (Wgt.mk wv wc = wsum s q0.track (a : Int) d) ∧ (VotT F29 wI v s) ∧ (∀ q, F29 q → 0 ≤ q ∧ q ≠ b1 ∧ q ≠ b3 ∧ q ≠ b22) ∧ (∀ q, F29 q → F q ∨ w.heap.size ≤ q) ∧ (Blk wI b1 [nt 0, nt 0, nt 0] 43) ∧ (Blk wI b3 (Tly.cells T) 43) ∧ (Blk wI b22 [nt wv, nt wc] 54) ∧ (Keep F w wI) ∧ e = [(0, pt v),(1, nt (k0 : Int)),(2, nt q0.track),(6, pt b1),(8, pt b3),(9, nt (a : Int)),(10, pt b22),(11, nt (d : Int))]) 10 ⟨0, 0, 0, F10, by omega, ws_0 _ _ _, ho11, (fun q hq => by have h1 := ow12 q hq; have h2 := lt20 q hq; omega), rl13, hb15, hb16, hb22_27, hk14, rfl⟩ ?_
  rintro k38 w37 _ ⟨d, wv, wc, F29, hkd, hw, ho30, ow31, rl32, hb34, hb35, hb36, hk33, rfl⟩
  have hzhk33 := Keep.size hk33
  have lt40 := VotT.lt ho30
  have hvlt := lt40 _ (VotT.at_ ho30)
  have hb1lt := hb34.lt
  have hb3lt := hb35.lt
  have hb22lt := hb36.lt
  refine V_seq <| Vn [0, 1, 2, 6, 8, 9, 10, 11, 26] <| Vi ((d : Int) < 10) (fun hc41 => ?_) (fun hc41 => ?_)
  ·
   refine Vsk <| V_seq <| V_block <| Vr <| On 3 [0, 1, 2, 6, 8, 9, 10, 11, 30, 31, 32] <| Kg (deleg_all F29 v s (d : Int) q0.track _ ho30) ?_
   rintro _ w44 ⟨rfl, ⟨F46, ho47, hfr48⟩, hk45⟩
   refine ⟨_, rfl, ?_⟩
   have hsz49 := Keep.size hk45
   replace hb34 := hb34.keep hk45 (fun hs => by have h1 := ow31 _ hs; have h2 := lt40 _ hs; omega)
   replace hb35 := hb35.keep hk45 (fun hs => by have h1 := ow31 _ hs; have h2 := lt40 _ hs; omega)
   replace hb36 := hb36.keep hk45 (fun hs => by have h1 := ow31 _ hs; have h2 := lt40 _ hs; omega)
   replace hk33 := frr hk33 hk45 rl32
   have own51 : ∀ q, F46 q → 0 ≤ q ∧ q ≠ b1 ∧ q ≠ b3 ∧ q ≠ b22 := fun q hq => by rcases hfr48 q hq with h | h; (have h1 := ow31 q h; have h2 := lt40 q h; omega); omega
   have lt50 := VotT.lt ho47
   have rel52 : ∀ q, F46 q → F q ∨ w.heap.size ≤ q := fun q hq => by rcases hfr48 q hq with h | h; exact rl32 q h; exact .inr (by omega)
   refine On 13 [0, 1, 2, 6, 8, 9, 10, 11, 12, 13, 14, 15] <| Oer <| Os 2 [(0, pt v),(1, nt (k0 : Int)),(2, nt q0.track),(6, pt b1),(8, pt b3),(9, nt (a : Int)),(10, pt b22),(11, nt (d : Int)),(12, nt (dTo (s.rc (d : Int) q0.track))),(13, nt (dLv (s.rc (d : Int) q0.track))),(14, nt (dN (s.rc (d : Int) q0.track))),(39, .bool ((s.rc (d : Int) q0.track).d.isSome))] ?_
   cases hg53 : ((s.rc (d : Int) q0.track).d.isSome)
   ·
    refine OI_eq [(0, pt v),(1, nt (k0 : Int)),(2, nt q0.track),(6, pt b1),(8, pt b3),(9, nt (a : Int)),(10, pt b22),(11, nt (d : Int)),(12, nt (dTo (s.rc (d : Int) q0.track))),(13, nt (dLv (s.rc (d : Int) q0.track))),(14, nt (dN (s.rc (d : Int) q0.track))),(39, .bool false)] (by first | rfl | rw [hg53]) <| Oen [0, 1, 2, 6, 8, 9, 10, 11, 13, 14, 40, 41, 42, 45, 46, 49, 50, 51] <| Vf <| V_skip <| X_block <| X_then <| V_region ?_
    have hw54 : i64.wrap ((d : Int) + 1) = ((d + 1 : Nat) : Int) := wrp
    refine On 2 [0, 1, 2, 6, 8, 9, 10, 28, 40, 41, 42, 45, 46, 49, 50] <| Oq (u := nt (i64.wrap ((d : Int) + 1))) (v := nt ((d + 1 : Nat) : Int)) 28 (by rw [hw54]) <| Os 3 [(0, pt v),(1, nt (k0 : Int)),(2, nt q0.track),(6, pt b1),(8, pt b3),(9, nt (a : Int)),(10, pt b22),(11, nt ((d + 1 : Nat) : Int)),(40, undef),(41, undef),(42, undef),(45, undef),(46, undef),(49, undef),(50, undef)] <| OI_end rfl ?_
    exact V_again (k38 - 1) (by omega) [(0, pt v),(1, nt (k0 : Int)),(2, nt q0.track),(6, pt b1),(8, pt b3),(9, nt (a : Int)),(10, pt b22),(11, nt ((d + 1 : Nat) : Int))] rfl ⟨d + 1, wv, wc, F46, by omega, (ws_no hw (fun h9 => by rw [hg53] at h9; cases h9.1)), ho47, (fun q hq => by have h1 := own51 q hq; have h2 := lt50 q hq; omega), rel52, hb34, hb35, hb36, hk33, rfl⟩
   refine OI_eq [(0, pt v),(1, nt (k0 : Int)),(2, nt q0.track),(6, pt b1),(8, pt b3),(9, nt (a : Int)),(10, pt b22),(11, nt (d : Int)),(12, nt (dTo (s.rc (d : Int) q0.track))),(13, nt (dLv (s.rc (d : Int) q0.track))),(14, nt (dN (s.rc (d : Int) q0.track))),(39, .bool true)] (by first | rfl | rw [hg53]) <| On 7 [0, 1, 2, 6, 8, 9, 10, 11, 13, 14, 40, 41, 42, 44] ?_
   by_cases hg55 : dTo (s.rc (d : Int) q0.track) = (a : Int)
   ·
    refine Dt 44 hg55 <| On 11 [0, 1, 2, 6, 8, 9, 10, 11, 13, 14, 40, 41, 42, 45, 46, 48] <| Oq (u := .bool (decide (dLv (s.rc (d : Int) q0.track) ≥ 0))) (v := .bool true) 48 (by rw [decide_eq_true (show (dLv (s.rc (d : Int) q0.track) ≥ 0) from (dLv_ok hi.inv _ _).1)]) <| Oen [0, 1, 2, 6, 8, 9, 10, 11, 13, 14, 40, 41, 42, 45, 46, 49, 50, 51] <| Vq (u := .bool (decide (dLv (s.rc (d : Int) q0.track) ≤ 6))) (v := .bool true) 51 (by rw [decide_eq_true (show (dLv (s.rc (d : Int) q0.track) ≤ 6) from (dLv_ok hi.inv _ _).2)]) <| Vo <| V_draws (acts [4, 11]) none_ [[2, 3, 4, 0, 1, 5, 6, 7, 8, 9, 10, 11]] (by kernel_rfl) (by repeat first | exact (by first | exact sure_postM | exact sure_rQ2 | exact sure_no) | refine sure_then ?_ | refine sure_block ?_ | refine sure_join ?_) (by kernel_rfl) ?_
    intro w59 hk58 he60 L hL61
    have hsz62 := Keep.size hk58
    replace hb34 := hb34.k0 hk58
    replace hb35 := hb35.k0 hk58
    replace hb36 := hb36.k0 hk58
    replace hk33 := hk33.tn hk58
    replace ho47 := ho47.keep hk58 nk
    have qhb36 := hb36
    have K63 : Keep none_ w59 w59 := Keep.refl _ _
    obtain rfl := List.mem_singleton.1 hL61
    refine Gn [4, 0, 1, 5, 6, 7, 8, 9, 10, 11] [0, 1, 2, 6, 8, 9, 10, 11, 14, 40, 41, 42, 45, 46, 49, 50, 54, 55] <| Hq K63 (rVotes_spec (dN (s.rc (d : Int) q0.track)) (dLv (s.rc (d : Int) q0.track)) _) <| Gn [1, 5, 6, 7, 8, 9, 10, 11] [0, 1, 2, 6, 8, 9, 10, 11, 14, 40, 41, 42, 45, 46, 49, 50, 52, 56] <| Mr 0 (nt wv) qhb36 <| Gn [7, 8, 9, 10, 11] [0, 1, 2, 6, 8, 9, 10, 11, 14, 40, 41, 42, 45, 46, 49, 50, 57, 58] <| Mr 1 (nt wc) qhb36 <| Gn [11] [0, 1, 2, 6, 8, 9, 10, 11, 40, 41, 42, 45, 46, 49, 50, 62] <| GI_final 11 (by kernel_rfl) (by kernel_rfl) <| OI_set (m := 2) (kd := true) 54 (.tmp 10) (.tmp 62) 0 (.agg #[nt (i64.wrap (wv + (cvVotes (dN (s.rc (d : Int) q0.track)) (dLv (s.rc (d : Int) q0.track))))), nt (i64.wrap (wc + (dN (s.rc (d : Int) q0.track))))]) [nt (i64.wrap (wv + (cvVotes (dN (s.rc (d : Int) q0.track)) (dLv (s.rc (d : Int) q0.track))))), nt (i64.wrap (wc + (dN (s.rc (d : Int) q0.track))))] none (by kernel_rfl) (by kernel_rfl) (by kernel_rfl) hb36 (by kernel_rfl) (by kernel_rfl) (by kernel_rfl) (Nat.le_of_ble_eq_true (by kernel_rfl)) (by simp [Value.oneCell']) ?_
    intro w67 hb22_70 hk68 hz69
    replace hb22_70 : Blk w67 b22 [nt (i64.wrap (wv + (cvVotes (dN (s.rc (d : Int) q0.track)) (dLv (s.rc (d : Int) q0.track))))), nt (i64.wrap (wc + (dN (s.rc (d : Int) q0.track))))] 54 := hb22_70
    have hsz71 := Keep.size hk68
    replace hb34 := hb34.k1 hk68
    replace hb35 := hb35.k1 hk68
    replace hk33 := Keep.fr hk33 hk68
    replace ho47 := ho47.keep hk68 (fun q hq hs => by have hs : q = b22 := hs; have g0 := own51 q hq; have g1 := lt50 q hq; omega)
    refine OI_end rfl <| X_block <| X_then <| V_region ?_
    have hw72 : i64.wrap ((d : Int) + 1) = ((d + 1 : Nat) : Int) := wrp
    refine On 2 [0, 1, 2, 6, 8, 9, 10, 28, 40, 41, 42, 45, 46, 49, 50] <| Oq (u := nt (i64.wrap ((d : Int) + 1))) (v := nt ((d + 1 : Nat) : Int)) 28 (by rw [hw72]) <| Os 3 [(0, pt v),(1, nt (k0 : Int)),(2, nt q0.track),(6, pt b1),(8, pt b3),(9, nt (a : Int)),(10, pt b22),(11, nt ((d + 1 : Nat) : Int)),(40, nt (dTo (s.rc (d : Int) q0.track))),(41, nt (a : Int)),(42, .bool (decide (dTo (s.rc (d : Int) q0.track) = (a : Int)))),(45, nt (dLv (s.rc (d : Int) q0.track))),(46, .bool (decide (dLv (s.rc (d : Int) q0.track) ≥ 0))),(49, nt (dLv (s.rc (d : Int) q0.track))),(50, .bool (decide (dLv (s.rc (d : Int) q0.track) ≤ 6)))] <| OI_end rfl ?_
    exact V_again (k38 - 1) (by omega) [(0, pt v),(1, nt (k0 : Int)),(2, nt q0.track),(6, pt b1),(8, pt b3),(9, nt (a : Int)),(10, pt b22),(11, nt ((d + 1 : Nat) : Int))] rfl ⟨d + 1, (i64.wrap (wv + (cvVotes (dN (s.rc (d : Int) q0.track)) (dLv (s.rc (d : Int) q0.track))))),(i64.wrap (wc + (dN (s.rc (d : Int) q0.track)))), F46, by omega, (ws_yes hw hg53 hg55), ho47, (fun q hq => by have h1 := own51 q hq; have h2 := lt50 q hq; omega), rel52, hb34, hb35, hb22_70, hk33, rfl⟩
   refine Df 44 hg55 <| Oen [0, 1, 2, 6, 8, 9, 10, 11, 13, 14, 40, 41, 42, 45, 46, 49, 50, 51] <| Vf <| V_skip <| X_block <| X_then <| V_region ?_
   have hw73 : i64.wrap ((d : Int) + 1) = ((d + 1 : Nat) : Int) := wrp
   refine On 2 [0, 1, 2, 6, 8, 9, 10, 28, 40, 41, 42, 45, 46, 49, 50] <| Oq (u := nt (i64.wrap ((d : Int) + 1))) (v := nt ((d + 1 : Nat) : Int)) 28 (by rw [hw73]) <| Os 3 [(0, pt v),(1, nt (k0 : Int)),(2, nt q0.track),(6, pt b1),(8, pt b3),(9, nt (a : Int)),(10, pt b22),(11, nt ((d + 1 : Nat) : Int)),(40, nt (dTo (s.rc (d : Int) q0.track))),(41, nt (a : Int)),(42, .bool (decide (dTo (s.rc (d : Int) q0.track) = (a : Int)))),(45, undef),(46, undef),(49, undef),(50, undef)] <| OI_end rfl ?_
   exact V_again (k38 - 1) (by omega) [(0, pt v),(1, nt (k0 : Int)),(2, nt q0.track),(6, pt b1),(8, pt b3),(9, nt (a : Int)),(10, pt b22),(11, nt ((d + 1 : Nat) : Int))] rfl ⟨d + 1, wv, wc, F46, by omega, (ws_no hw (fun h9 => hg55 h9.2)), ho47, (fun q hq => by have h1 := own51 q hq; have h2 := lt50 q hq; omega), rel52, hb34, hb35, hb36, hk33, rfl⟩
  have hd9 : d = 10 := by omega
  have hgot : Wgt.mk wv wc = (s.rc (a : Int) q0.track).got := by rw [hw, hd9]; exact (hc.got _ _ (by omega) (by omega)).symm
  refine V_exit <| X_exit_then <| X_exit_then <| X_exit_here <| X_then <| Vr <| On 3 [0, 1, 2, 6, 8, 9, 10, 64, 65, 66] <| Kg (casts_spec F29 v s (a : Int) q0.track _ ho30) ?_
  rintro _ w76 ⟨K78, capK78, rfl, hAK78, hk77, owK78⟩
  refine ⟨_, rfl, ?_⟩
  have hsz79 := Keep.size hk77
  replace hb34 := hb34.k0 hk77
  replace hb35 := hb35.k0 hk77
  replace hb36 := hb36.k0 hk77
  replace ho30 := ho30.keep hk77 nk
  replace hk33 := hk33.tn hk77
  have ltK78 := SlT.lt hAK78
  have owbK78 := owK78
  refine On 9 [0, 1, 2, 6, 8, 9, 10, 16, 17] <| Oe <| V_seq <| Vn [0, 1, 2, 6, 8, 9, 10, 16, 71] <| Vf <| Vsk <| Vn [0, 1, 2, 6, 8, 9, 10, 16, 18] <| V_block ?_
  have hvl9 := rowL12 ho30 (a : Int) q0.track
  refine Vp [(0, pt v),(1, nt (k0 : Int)),(2, nt q0.track),(6, pt b1),(8, pt b3),(9, nt (a : Int)),(10, pt b22),(16, .slice K78 ((vrow s (a : Int) q0.track).length) capK78),(18, nt 0)] <| V_loop (fun k wI e => ∃ i : Nat, ∃ T2 : Tly, (k + i = (vrow s (a : Int) q0.track).length) ∧ (T2 = cf (k0 : Int) (Wgt.mk wv wc) T ((vrow s (a : Int) q0.track).take i)) ∧ (Blk wI b3 (Tly.cells T2) 43) ∧ Keep (only b3) w76 wI ∧ e = [(0, pt v),(1, nt (k0 : Int)),(2, nt q0.track),(6, pt b1),(8, pt b3),(9, nt (a : Int)),(10, pt b22),(16, .slice K78 ((vrow s (a : Int) q0.track).length) capK78),(18, nt (i : Int))]) ((vrow s (a : Int) q0.track).length) ⟨0, T, by omega, rfl, hb35, Keep.refl _ _, rfl⟩ ?_
  rintro k81 w80 _ ⟨i, T2, hki, hT2, hB8, hk82, rfl⟩
  have hsz83 := Keep.size hk82
  replace hb34 := hb34.k1 hk82
  replace hb36 := hb36.k1 hk82
  replace hAK78 := hAK78.keep hk82 (fun q hq hs => by have hs : q = b3 := hs; have g0 := owK78 q hq; have g1 := ltK78 q hq; omega)
  replace ho30 := ho30.keep hk82 (fun q hq hs => by have hs : q = b3 := hs; have g0 := ow31 q hq; have g1 := lt40 q hq; omega)
  replace hk33 := Keep.fr hk33 hk82
  have hzhk82 := Keep.size hk82
  have hb3lt := hB8.lt
  refine V_seq <| Vn [0, 1, 2, 6, 8, 9, 10, 16, 18, 76] <| Vi ((i : Int) < (((vrow s (a : Int) q0.track).length : Nat) : Int)) (fun hc84 => ?_) (fun hc84 => ?_)
  ·
   refine Vsk <| V_seq <| V_block <| Vr <| On 2 [0, 1, 2, 6, 8, 9, 10, 16, 18, 79, 80] ?_
   obtain ⟨b85, o85, L85, T85, rfl, hat85⟩ := SlT.opn hAK78
   have hb85lt := hat85.blk.lt
   have hob86 := owK78 b85 ⟨_, rfl, rfl⟩
   have hob87 := ltK78 b85 ⟨_, rfl, rfl⟩
   refine Oi (b := b85) (o := o85) (len := (vrow s (a : Int) q0.track).length) (cap := capK78) (j := i) (some 81) 39 (.tmp 79) (.tmp 80) 46 7 56 .i64 <| On 4 [0, 1, 2, 6, 8, 9, 10, 16, 18, 82] ?_
   obtain ⟨x88, hx89⟩ := exAt (xs := (vrow s (a : Int) q0.track)) (i := i)
   refine Lc (o85 + i * 7) (nt x88.1) hat85.blk (At.cell0 hat85 (es_at hx89) rfl) <| Oen [0, 1, 2, 6, 8, 9, 10, 16, 18, 85] <| Vi (x88.1 = (k0 : Int)) (fun hc90 => ?_) (fun hc90 => ?_)
   ·
    refine V_draws (acts [7, 8, 9]) none_ [[1, 2, 3, 4, 5, 6, 7, 0, 8, 9]] (by kernel_rfl) (by repeat first | exact (by first | exact sure_postM | exact sure_rQ2 | exact sure_no) | refine sure_then ?_ | refine sure_block ?_ | refine sure_join ?_) (by kernel_rfl) ?_
    intro w92 hk91 he93 L hL94
    have hsz95 := Keep.size hk91
    replace hB8 := hB8.k0 hk91
    replace hb36 := hb36.k0 hk91
    replace hat85 := hat85.keep hk91 id
    replace hk82 := hk82.tn hk91
    have qhB8 := hB8
    have qhb36 := hb36
    have qhat85 := hat85
    have K96 : Keep none_ w92 w92 := Keep.refl _ _
    obtain rfl := List.mem_singleton.1 hL94
    refine Gn [3, 4, 5, 6, 7, 0, 8, 9] [0, 1, 2, 6, 8, 9, 10, 16, 18, 87, 88] <| Gi (b := b85) (o := o85) (len := (vrow s (a : Int) q0.track).length) (cap := capK78) (j := i) 46 7 56 .i64 <| Gn [5, 6, 7, 0, 8, 9] [0, 1, 2, 6, 8, 9, 10, 16, 18, 90] <| Ma (o85 + i * 7 + 1) (Vt.cells x88.2) 6 qhat85.blk id (At.sub qhat85 (es_at hx89) (by decide) rfl) (Vt.len _) <| Ma 0 [nt wv, nt wc] 2 qhb36 id rfl rfl <| Hg (rGain_spec x88.2 (Wgt.mk wv wc) _) ?_
    rintro _ w99 ⟨rfl, hk100⟩
    have K101 := K96.tr (Keep.ofNone hk100)
    refine ⟨_, rfl, K101, ?_⟩
    have hzK101 := Keep.size K101
    have hsz102 := Keep.size hk100
    replace hk82 := hk82.tn hk100
    refine Ma 0 (Tly.cells T2) 3 qhB8 id (take_all (Tly.len _)) (Tly.len _) <| GI_final 8 (by kernel_rfl) (by kernel_rfl) <| Kk (rAdd_spec T2 (gainT x88.2 (Wgt.mk wv wc)) _) fun w103 hk104 _ => ?_
    replace hB8 := hB8.k0 (hk100.tr hk104)
    replace hk82 := hk82.tn hk104
    refine Sg 0 (Tly.cells (addT T2 (gainT x88.2 (Wgt.mk wv wc)))) hB8 (Tly.len _) (Tly.one _) ?_
    intro w106 hb3_109 hk107 hz108
    replace hb3_109 : Blk w106 b3 (Tly.cells (addT T2 (gainT x88.2 (Wgt.mk wv wc)))) 43 := (by rwa [over_whole (by rw [Tly.len, Tly.len])] at hb3_109)
    have hsz110 := Keep.size hk107
    replace hk82 := Keep.fr hk82 hk107
    refine OI_end rfl <| X_block <| X_then <| V_region ?_
    have hw111 : i64.wrap ((i : Int) + 1) = ((i + 1 : Nat) : Int) := wrp
    refine On 2 [0, 1, 2, 6, 8, 9, 10, 16, 78] <| Oq (u := nt (i64.wrap ((i : Int) + 1))) (v := nt ((i + 1 : Nat) : Int)) 78 (by rw [hw111]) <| Os 3 [(0, pt v),(1, nt (k0 : Int)),(2, nt q0.track),(6, pt b1),(8, pt b3),(9, nt (a : Int)),(10, pt b22),(16, sl_ b85 o85 ((vrow s (a : Int) q0.track).length) capK78),(18, nt ((i + 1 : Nat) : Int))] <| OI_end rfl ?_
    exact V_again (k81 - 1) (by omega) [(0, pt v),(1, nt (k0 : Int)),(2, nt q0.track),(6, pt b1),(8, pt b3),(9, nt (a : Int)),(10, pt b22),(16, sl_ b85 o85 ((vrow s (a : Int) q0.track).length) capK78),(18, nt ((i + 1 : Nat) : Int))] rfl ⟨i + 1, (addT T2 (gainT x88.2 (Wgt.mk wv wc))), by omega, (cf_yes hx89 hc90 hT2), hb3_109, hk82, rfl⟩
   refine V_skip <| X_block <| X_then <| V_region ?_
   have hw112 : i64.wrap ((i : Int) + 1) = ((i + 1 : Nat) : Int) := wrp
   refine On 2 [0, 1, 2, 6, 8, 9, 10, 16, 78] <| Oq (u := nt (i64.wrap ((i : Int) + 1))) (v := nt ((i + 1 : Nat) : Int)) 78 (by rw [hw112]) <| Os 3 [(0, pt v),(1, nt (k0 : Int)),(2, nt q0.track),(6, pt b1),(8, pt b3),(9, nt (a : Int)),(10, pt b22),(16, sl_ b85 o85 ((vrow s (a : Int) q0.track).length) capK78),(18, nt ((i + 1 : Nat) : Int))] <| OI_end rfl ?_
   exact V_again (k81 - 1) (by omega) [(0, pt v),(1, nt (k0 : Int)),(2, nt q0.track),(6, pt b1),(8, pt b3),(9, nt (a : Int)),(10, pt b22),(16, sl_ b85 o85 ((vrow s (a : Int) q0.track).length) capK78),(18, nt ((i + 1 : Nat) : Int))] rfl ⟨i + 1, T2, by omega, (cf_no hx89 hc90 hT2), hB8, hk82, rfl⟩
  have hie : i = (vrow s (a : Int) q0.track).length := by omega
  rw [hie, List.take_length] at hT2
  refine V_exit <| X_exit_then <| X_exit_then <| X_exit_here <| X_block <| X_then <| V_region ?_
  have hw113 : i64.wrap ((a : Int) + 1) = ((a + 1 : Nat) : Int) := wrp
  refine On 2 [0, 1, 2, 6, 8, 23] <| Oq (u := nt (i64.wrap ((a : Int) + 1))) (v := nt ((a + 1 : Nat) : Int)) 23 (by rw [hw113]) <| Os 3 [(0, pt v),(1, nt (k0 : Int)),(2, nt q0.track),(6, pt b1),(8, pt b3),(9, nt ((a + 1 : Nat) : Int))] <| OI_end rfl ?_
  exact V_again (k18 - 1) (by omega) [(0, pt v),(1, nt (k0 : Int)),(2, nt q0.track),(6, pt b1),(8, pt b3),(9, nt ((a + 1 : Nat) : Int))] rfl ⟨a + 1, T2, F29, by omega, (hT2.trans (by rw [hgot]; exact ts_step hi hq hT)), ho30, (fun q hq => by have h1 := ow31 q hq; have h2 := lt40 q hq; omega), rl32, hb34, hB8, hk33, rfl⟩
 refine V_exit <| X_exit_then <| X_exit_then <| X_exit_here <| X_then <| Vr <| La 0 (Tly.cells T) 3 hb16 (take_all (Tly.len _)) (Tly.len _) <| Sg 0 (Tly.cells T) hb15 (Tly.len _) (Tly.one _) ?_
 intro w114 hb1_117 hk115 hz116
 replace hb1_117 : Blk w114 b1 (Tly.cells T) 43 := (by rwa [over_whole (by rw [Tly.len]; rfl)] at hb1_117)
 have hsz118 := Keep.size hk115
 replace ho11 := ho11.keep hk115 (fun q hq hs => by have hs : q = b1 := hs; have g0 := ow12 q hq; have g1 := lt20 q hq; omega)
 replace hk14 := Keep.fr hk14 hk115
 refine Ose [(6, pt b1),(7, .bool true)] <| V_ret ?_
 have ha9 : a = 10 := by omega
 have hTf := tal_is hc hi hq hs (T := T) (by rw [← ha9]; exact hT)
 exact leave0 (.tuple #[.agg (Tly.cells T).toArray, .bool true]) (.inl rfl) (res_agg_tmp (m := 3) rfl rfl rfl (by kernel_rfl) hb1_117 rfl) ⟨by rw [hTf], ⟨F10, ho11, rl13⟩, hk14⟩
end Go.Al
