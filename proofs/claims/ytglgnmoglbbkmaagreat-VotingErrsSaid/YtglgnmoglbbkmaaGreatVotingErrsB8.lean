/-
  Put together out of 14 texts: Walks of package voting: Unvote. Package voting: Unvote. Walks of package voting: Undelegate. Package voting: Undelegate. Walks of package voting: what is told of records. Package voting: what is told of records. Walks of the laws of voting: what is lent counts. The law
-/
import Derived.Test.YtglgnmoglbbkmaaGreatVotingErrsB7
open Go.IntKind (i64)
set_option maxRecDepth 10000
namespace Go.Al
open Go Go.RowKit Go.Proofs
set_option maxHeartbeats 1000000 in
theorem unvote_at (F : Nat → Prop) (v : Nat) (P : VP) (s : VS) (who ref now : Int) (w : World) (h : Vot F w v P s) (htr : TrkOk s) : Calls Tryz.prog 25 #[pt v, nt who, nt ref, nt now] w fun e w' => e = .returned (nt (unvE s who ref)) ∧ (∃ F', VotE F' w' v (unvS s who ref now) ∧ (∀ q, F' q → F q ∨ w.heap.size ≤ q)) ∧ Keep F w w' := by
 have hFlt := Vot.lt h
 have hvlt := hFlt _ (Vot.at_ h)
 have hFo : ∀ q, F q → 0 ≤ q := fun q _ => Nat.zero_le q
 have hFr : ∀ q, F q → F q ∨ w.heap.size ≤ q := fun _ h => .inl h
 obtain ⟨hvl0, hvb⟩ := Vot.vblk h
 have hFv := Vot.at_ h
 have hinv := Vot.inv h
 have hK0 := Keep.refl F w
 refine eV ?_
 refine Vr <| On 1 [0, 1, 2, 3] <| Oe <| V_seq <| Vr <| On 4 [0, 1, 2, 3, 15, 16] <| Kq (isAcc_spec who _) <| Oen [0, 1, 2, 3, 19] <| V_not (0 ≤ who ∧ who ≤ 9) (by kernel_rfl) (fun hc6 => ?_) (fun hc6 => ?_)
 ·
  refine Vn [8] <| Rt ?_
  have hE7 : unvE s who ref = 1 := by unfold unvE; rw [if_pos hc6]
  exact Xr (nt 1) ⟨by rw [hE7], ⟨F, ⟨_, by rw [show unvS s who ref now = s from by unfold unvS; rw [hE7, if_neg (by decide)]]; exact h⟩, hFr⟩, hK0⟩
 refine Vsk <| Vr <| On 2 [0, 1, 2, 3, 20, 21] ?_
 rcases Vot.pollcase h ref with ⟨hpn8, hpc8⟩ | ⟨i8, b8, q8, hpr8, hpi8, hpp8, hps8, hpa8⟩
 ·
  refine Kk (poll_none F v P s ref _ h hpc8) fun w11 hk12 _ => ?_
  replace h := h.keep hk12 nk
  replace hK0 := hK0.tn hk12
  refine On 4 [0, 1, 2, 3, 9] <| Oe <| V_seq <| Vn [0, 1, 2, 3, 9, 24] <| Vo <| Vn [8] <| Rt ?_
  have hE14 : unvE s who ref = 4 := by unfold unvE; rw [if_neg (fun h9 => h9 hc6)]; rw [hpn8]
  exact Xr (nt 4) ⟨by rw [hE14], ⟨F, ⟨_, by rw [show unvS s who ref now = s from by unfold unvS; rw [hE14, if_neg (by decide)]]; exact h⟩, hFr⟩, hK0⟩
 ·
  refine Ok (kl 46 #[(.tmp 20), (.tmp 21)] #[31, 3]) 46 #[pt v, nt ref] (some 22) ((by rw [hpr8]; exact poll_some F v P s i8 b8 _ h hpi8 hpp8)) ?_
  rintro _ w17 ⟨rfl, hk18⟩
  refine ⟨_, rfl, ?_⟩
  have hsz19 := Keep.size hk18
  replace hvb := hvb.k0 hk18
  replace h := h.keep hk18 nk
  replace hK0 := hK0.tn hk18
  obtain ⟨hm20, hF21⟩ := Vot.pollB h hpp8 hps8
  have hb8lt := hm20.lt
  have hlob8 := hFlt _ hF21
  have hob8 := hFo _ hF21
  have hneb8v : b8 ≠ v := Blk.ne hm20 hvb (by decide)
  refine On 4 [0, 1, 2, 3, 9] <| Oe <| V_seq <| Vn [0, 1, 2, 3, 9, 24] <| Vf <| Vsk <| Vr <| On 5 [0, 1, 2, 3, 9, 25, 26, 29] <| Lr 0 (nt ((q8).track)) hm20 ?_
  rcases hd22 : (s.rc who ((q8).track)).d with _ | d23
  ·
   refine Kg (record_spec F v P s who ((q8).track) _ h (by omega) (htr _ _ (by assumption))) ?_
   rintro _ w38 ⟨q28, P29, rfl, hgc33, hpp34, hgv35, hmn36, hdl37, ⟨F30, ho31, hfr32⟩, hk39⟩
   refine ⟨_, rfl, ?_⟩
   have hsz40 := Keep.size hk39
   replace hK0 := frr hK0 hk39 hFr
   have own42 : ∀ q, F30 q → 0 ≤ q := fun q hq => by rcases hfr32 q hq with h | h; (have h1 := hFo q h; have h2 := hFlt q h; omega); omega
   have lt41 := Vot.lt ho31
   have rel43 : ∀ q, F30 q → F q ∨ w.heap.size ≤ q := fun q hq => by rcases hfr32 q hq with h | h; exact hFr q h; exact .inr (by omega)
   have hqb8w38 := (show P29.pp[i8]? = some (some ⟨b8, 0, none⟩) from by rw [hpp34]; exact hpp8)
   have hgq28lt := lt41 _ (Vot.at_ ho31)
   obtain ⟨hvlhm44, hm44⟩ := Vot.vblk ho31
   have hF45 := Vot.at_ ho31
   have hvlt := hm44.lt
   have hlov := lt41 _ hF45
   have hov := own42 _ hF45
   obtain ⟨hm46, hF47⟩ := Vot.pollB ho31 hqb8w38 hps8
   have hb8lt := hm46.lt
   have hlob8 := lt41 _ hF47
   have hob8 := own42 _ hF47
   obtain ⟨hF49, hm48⟩ := Vot.recN ho31 hgc33 hd22
   have hq28lt := hm48.lt
   have hloq28 := lt41 _ hF49
   have hoq28 := own42 _ hF49
   have hneb8v : b8 ≠ v := Blk.ne hm46 hm44 (by decide)
   have hneq28v : q28 ≠ v := Blk.ne hm48 hm44 (by decide)
   have hneq28b8 : q28 ≠ b8 := Blk.ne hm48 hm46 (by decide)
   refine On 8 [0, 1, 2, 3, 9, 10] <| Oer <| On 3 [0, 1, 2, 3, 9, 10, 35] <| Lc 12 (pt P29.gv) hm44 (by rw [List.getElem?_append_right (by rw [List.length_map]; omega), List.length_map, hvlhm44]; rfl) ?_
   refine On 6 [0, 1, 2, 3, 9, 10, 36, 37, 38] <| Kk (vget_spec F30 v P29 s who ref _ ho31) fun w52 hk53 _ => ?_
   replace hK0 := hK0.tn hk53
   replace ho31 := ho31.keep hk53 nk
   refine On 10 [0, 1, 2, 3, 9, 10, 40, 41] <| Alc_ 23 (.agg #[nt 0, .bool false, nt 0, nt 0, nt 0, nt 0]) [nt 0, .bool false, nt 0, nt 0, nt 0, nt 0] ?_
   intro b55 w55 e55 hb55 k55 z55
   have hsz56 := Keep.size k55
   replace hm44 := hm44.k0 (hk53.tr k55)
   replace hK0 := hK0.tn k55
   replace ho31 := ho31.keep k55 nk
   have hb55lt := hb55.lt
   refine Sg 0 (Vt.cells ((GV.getC who ref s.cs).getD Vt.zero)) hb55 (Vt.len _) (Vt.one _) ?_
   intro w57 hb55_60 hk58 hz59
   replace hb55_60 : Blk w57 b55 (Vt.cells ((GV.getC who ref s.cs).getD Vt.zero)) 23 := (by rwa [over_whole (by rw [Vt.len]; rfl)] at hb55_60)
   have hsz61 := Keep.size hk58
   replace hm44 := hm44.k1 hk58
   replace hK0 := Keep.fr hK0 hk58
   replace ho31 := ho31.keep hk58 (fun q hq hs => by have hs : q = b55 := hs; have g0 := own42 q hq; have g1 := lt41 q hq; omega)
   refine On 13 [0, 1, 2, 3, 9, 10, 11, 12] <| Oe <| V_seq <| Vn [0, 1, 2, 3, 9, 10, 11, 43] <| Vb (!((GV.getC who ref s.cs).isSome)) (fun hc62 => ?_) (fun hc62 => ?_)
   ·
    refine Vn [8] <| Rt ?_
    have hE63 : unvE s who ref = 4 := by unfold unvE; rw [if_neg (fun h9 => h9 hc6)]; rw [hpa8]; dsimp only; rw [if_neg (by rw [(show (GV.getC who ref s.cs).isSome = false from by simpa using hc62)]; decide)]
    exact Xr (nt 4) ⟨by rw [hE63], ⟨F30, ⟨_, by rw [show unvS s who ref now = s from by unfold unvS; rw [hE63, if_neg (by decide)]]; exact ho31⟩, rel43⟩, hK0⟩
   refine Vsk <| Vr <| On 3 [1, 2, 3, 9, 10, 11, 46] <| Lc 12 (pt P29.gv) hm44 (by rw [List.getElem?_append_right (by rw [List.length_map]; omega), List.length_map, hvlhm44]; rfl) ?_
   refine On 6 [3, 9, 10, 11, 47, 48, 49] <| Kg (vdel_spec F30 v P29 s who ref _ ho31) ?_
   rintro _ w68 ⟨rfl, ⟨F70, ho71, hfr72⟩, hk69⟩
   refine ⟨_, rfl, ?_⟩
   have hsz73 := Keep.size hk69
   replace hb55_60 := hb55_60.keep hk69 (fun hs => by have h1 := own42 _ hs; have h2 := lt41 _ hs; omega)
   replace hK0 := frr hK0 hk69 rel43
   have own75 : ∀ q, F70 q → 0 ≤ q ∧ q ≠ b55 := fun q hq => by rcases hfr72 q hq with h | h; (have h1 := own42 q h; have h2 := lt41 q h; omega); omega
   have lt74 := Vot.lt ho71
   have rel76 : ∀ q, F70 q → F q ∨ w.heap.size ≤ q := fun q hq => by rcases hfr72 q hq with h | h; exact rel43 q h; exact .inr (by omega)
   obtain ⟨hvlhm77, hm77⟩ := Vot.vblk ho71
   have hF78 := Vot.at_ ho71
   have hvlt := hm77.lt
   have hlov := lt74 _ hF78
   have hov := own75 _ hF78
   obtain ⟨hm79, hF80⟩ := Vot.pollB ho71 hqb8w38 hps8
   have hb8lt := hm79.lt
   have hlob8 := lt74 _ hF80
   have hob8 := own75 _ hF80
   obtain ⟨hF82, hm81⟩ := Vot.recN ho71 hgc33 hd22
   have hq28lt := hm81.lt
   have hloq28 := lt74 _ hF82
   have hoq28 := own75 _ hF82
   have hneb8v : b8 ≠ v := Blk.ne hm79 hm77 (by decide)
   have hneq28v : q28 ≠ v := Blk.ne hm81 hm77 (by decide)
   have hneq28b8 : q28 ≠ b8 := Blk.ne hm81 hm79 (by decide)
   refine Oe <| V_seq <| V_block <| Vr <| On 3 [3, 9, 10, 11, 54] <| Lr 4 (nt ((q8).state)) hm79 <| Oen [3, 9, 10, 11, 51] <| Vi ((q8).state = 0) (fun hc83 => ?_) (fun hc83 => ?_)
   ·
    refine Vd1 (acts [10, 11, 14]) none_ [5, 6, 7, 8, 9, 10, 1, 2, 3, 4, 11, 0, 12, 13, 14] fun w85 hk84 he86 K89 _ => ?_
    replace hb55_60 := hb55_60.k0 hk84
    replace hm79 := hm79.k0 hk84
    replace hm81 := hm81.k0 hk84
    replace hK0 := hK0.tn hk84
    replace ho71 := ho71.keep hk84 nk
    have qhb55_60 := hb55_60
    have qhm79 := hm79
    have qhm81 := hm81
    refine Ma 0 (Vt.cells ((GV.getC who ref s.cs).getD Vt.zero)) 6 qhb55_60 id (take_all (Vt.len _)) (Vt.len _) <| Gn [9, 10, 1, 2, 3, 4, 11, 0, 12, 13, 14] [9, 62, 65] <| Ma 1 [nt (((s.rc who ((q8).track))).got.v), nt (((s.rc who ((q8).track))).got.c)] 2 qhm81 id rfl rfl <| Hg (cvGain_spec ((GV.getC who ref s.cs).getD Vt.zero) (((s.rc who ((q8).track))).got) _) ?_
    rintro _ w92 ⟨rfl, hk93⟩
    have K94 := K89.tr (Keep.ofNone hk93)
    refine ⟨_, rfl, K94, ?_⟩
    have hzK94 := Keep.size K94
    have hsz95 := Keep.size hk93
    replace hK0 := hK0.tn hk93
    replace ho71 := ho71.keep hk93 nk
    refine Gn [4, 11, 0, 12, 13, 14] [9, 60, 67] <| Ma 1 [nt ((q8).t.a), nt ((q8).t.n), nt ((q8).t.s)] 3 qhm79 id rfl rfl <| Hg (cvSub_spec ((q8).t) (gainT ((GV.getC who ref s.cs).getD Vt.zero) (((s.rc who ((q8).track))).got)) _) ?_
    rintro _ w98 ⟨rfl, hk99⟩
    have K100 := K94.tr (Keep.ofNone hk99)
    refine ⟨_, rfl, K100, ?_⟩
    have hzK100 := Keep.size K100
    have hsz101 := Keep.size hk99
    replace hm79 := hm79.k0 (hk93.tr hk99)
    replace hK0 := hK0.tn hk99
    replace ho71 := ho71.keep hk99 nk
    refine Gn [14] [68, 70] <| GI_final 14 (by kernel_rfl) (by kernel_rfl) <| Sg 1 (Tly.cells (subT ((q8).t) (gainT ((GV.getC who ref s.cs).getD Vt.zero) (((s.rc who ((q8).track))).got)))) hm79 (Tly.len _) (Tly.one _) ?_
    intro w102 hn105 hk103 hz104
    replace hn105 : Blk w102 b8 (PollS.cells { q8 with t := (subT ((q8).t) (gainT ((GV.getC who ref s.cs).getD Vt.zero) (((s.rc who ((q8).track))).got))) }) 89 := hn105
    have hsz106 := Keep.size hk103
    replace hK0 := Keep.fresh hK0 hk103 (fun i hi hs => by have hs : F70 i := (by rw [show i = b8 from hs]; exact hF80); rcases rel76 i hs with h | h; exact h; (exfalso; omega))
    obtain ⟨tv108, htv108⟩ : ∃ t9 : Tly, t9 = (subT ((q8).t) (gainT ((GV.getC who ref s.cs).getD Vt.zero) (((s.rc who ((q8).track))).got))) := ⟨_, rfl⟩
    rw [← htv108] at hn105
    have ho107 := Vot.setPoll ho71 hqb8w38 hps8 hk103 (show Blk _ _ (PollS.cells { q8 with t := tv108 }) _ from hn105)
    have hs109 : (({ s with cs := GV.delC who ref s.cs }).setP i8 { q8 with t := tv108 }).ps[i8]? = some (some { q8 with t := tv108 }) := List.getElem?_set_self (List.getElem?_eq_some_iff.1 hps8).1
    have hb8lt := hn105.lt
    refine OI_end rfl <| X_block <| X_then <| Vn [8] <| V_ret ?_
    have hE110 : unvE s who ref = 0 := by unfold unvE; rw [if_neg (fun h9 => h9 hc6)]; rw [hpa8]; dsimp only; rw [if_pos (show (GV.getC who ref s.cs).isSome = true from by simpa using hc62)]
    exact Xr (nt 0) ⟨by rw [hE110], ⟨F70, ⟨_, by rw [show unvS s who ref now = (({ s with cs := GV.delC who ref s.cs }).setP i8 { q8 with t := tv108 }) from by unfold unvS; rw [hE110, if_pos rfl, hpa8]; dsimp only; rw [if_pos hc83, show ref.toNat = i8 from by rw [hpr8]; exact Int.toNat_natCast _, htv108]]; exact ho107⟩, rel76⟩, hK0⟩
   refine V_seq <| Vd1 (acts [5]) none_ [0, 1, 2, 3, 4, 5, 6] fun w112 hk111 he113 K116 _ => ?_
   replace hb55_60 := hb55_60.k0 hk111
   replace hm79 := hm79.k0 hk111
   replace hK0 := hK0.tn hk111
   replace ho71 := ho71.keep hk111 nk
   have qhb55_60 := hb55_60
   have qhm79 := hm79
   refine Ma 0 (Vt.cells ((GV.getC who ref s.cs).getD Vt.zero)) 6 qhb55_60 id (take_all (Vt.len _)) (Vt.len _) <| Gn [4, 5, 6] [3, 9, 10, 11, 72, 75] <| Mr 4 (nt ((q8).state)) qhm79 <| Hg (won_spec ((GV.getC who ref s.cs).getD Vt.zero) ((q8).state) _) ?_
   rintro _ w119 ⟨rfl, hk120⟩
   have K121 := K116.tr (Keep.ofNone hk120)
   refine ⟨_, rfl, K121, ?_⟩
   have hzK121 := Keep.size K121
   have hsz122 := Keep.size hk120
   replace hb55_60 := hb55_60.k0 hk120
   replace hm79 := hm79.k0 hk120
   replace hm81 := hm81.k0 (hk111.tr hk120)
   replace hK0 := hK0.tn hk120
   replace ho71 := ho71.keep hk120 nk
   refine Gn [] [3, 9, 10, 11, 71] <| GI_end <| X_then <| Vb (wonV ((GV.getC who ref s.cs).getD Vt.zero) ((q8).state)) (fun hc123 => ?_) (fun hc123 => ?_)
   ·
    refine Vd1 (acts [7, 12]) none_ [5, 6, 7, 0, 1, 2, 3, 4, 8, 9, 10, 11, 12] fun w125 hk124 he126 K129 _ => ?_
    replace hb55_60 := hb55_60.k0 hk124
    replace hm79 := hm79.k0 hk124
    replace hm81 := hm81.k0 hk124
    replace hK0 := hK0.tn hk124
    replace ho71 := ho71.keep hk124 nk
    have qhb55_60 := hb55_60
    have qhm79 := hm79
    refine Gn [6, 7, 0, 1, 2, 3, 4, 8, 9, 10, 11, 12] [3, 9, 10, 11, 83] <| Mr 2 (nt (((GV.getC who ref s.cs).getD Vt.zero).level)) qhb55_60 <| Hq K129 (cvPeriod_spec (((GV.getC who ref s.cs).getD Vt.zero).level) 8 _ (lev_ok hinv (show (GV.getC who ref s.cs).isSome = true from by simpa using hc62) hc123)) <| Gn [4, 8, 9, 10, 11, 12] [3, 11, 78, 81, 85] <| Mr 5 (nt ((q8).stop)) qhm79 <| Gn [10, 11, 12] [3, 78, 86, 87] <| Mr 3 (nt (((GV.getC who ref s.cs).getD Vt.zero).a)) qhb55_60 <| Gn [12] [78, 86, 88, 89] <| GI_final 12 (by kernel_rfl) (by kernel_rfl) <| Kg (joins_spec q28 none (s.rc who ((q8).track)) (i64.wrap (((q8).stop) + (cvPeriod (((GV.getC who ref s.cs).getD Vt.zero).level) 8))) (((GV.getC who ref s.cs).getD Vt.zero).a) now _ hm81) ?_
    rintro _ w137 ⟨rfl, hn139, hk138⟩
    refine ⟨_, rfl, ?_⟩
    have hsz140 := Keep.size hk138
    replace hK0 := Keep.fresh hK0 hk138 (fun i hi hs => by have hs : F70 i := (by rw [show i = q28 from hs]; exact hF82); rcases rel76 i hs with h | h; exact h; (exfalso; omega))
    have ho141 := Vot.setRec (a := who) (t := ((q8).track)) (r' := (joinR (s.rc who ((q8).track)) (i64.wrap (((q8).stop) + (cvPeriod (((GV.getC who ref s.cs).getD Vt.zero).level) 8))) (((GV.getC who ref s.cs).getD Vt.zero).a) now)) (dp := none) (dp' := none) ho71 hgc33 hm81 hk138 (show Blk _ _ (RecS.cells none (joinR (s.rc who ((q8).track)) (i64.wrap (((q8).stop) + (cvPeriod (((GV.getC who ref s.cs).getD Vt.zero).level) 8))) (((GV.getC who ref s.cs).getD Vt.zero).a) now)) _ from hn139) (.inl ⟨rfl, by first | rfl | exact joinR_d _ _ _ _ | (rw [show ({ s with cs := GV.delC who ref s.cs }).rc who ((q8).track) = (s.rc who ((q8).track)) from rfl]) | (rw [show ({ s with cs := GV.delC who ref s.cs }).rc who ((q8).track) = (s.rc who ((q8).track)) from rfl]; exact joinR_d _ _ _ _)⟩)
    obtain ⟨r142, hr142⟩ : ∃ r9 : RecS, r9 = (joinR (s.rc who ((q8).track)) (i64.wrap (((q8).stop) + (cvPeriod (((GV.getC who ref s.cs).getD Vt.zero).level) 8))) (((GV.getC who ref s.cs).getD Vt.zero).a) now) := ⟨_, rfl⟩
    replace hn139 : Blk w137 q28 (RecS.cells none r142) 99 := by rw [hr142]; exact hn139
    have hq28lt := hn139.lt
    refine OI_end rfl <| X_block <| X_then <| Vn [8] <| V_ret ?_
    have hE143 : unvE s who ref = 0 := by unfold unvE; rw [if_neg (fun h9 => h9 hc6)]; rw [hpa8]; dsimp only; rw [if_pos (show (GV.getC who ref s.cs).isSome = true from by simpa using hc62)]
    exact Xr (nt 0) ⟨by rw [hE143], ⟨F70, ⟨_, by rw [show unvS s who ref now = (({ s with cs := GV.delC who ref s.cs }).setR who ((q8).track) (joinR (s.rc who ((q8).track)) (i64.wrap (((q8).stop) + (cvPeriod (((GV.getC who ref s.cs).getD Vt.zero).level) 8))) (((GV.getC who ref s.cs).getD Vt.zero).a) now)) from by unfold unvS; rw [hE143, if_pos rfl, hpa8]; dsimp only; rw [if_neg hc83]; rw [if_pos hc123]]; exact ho141⟩, rel76⟩, hK0⟩
   refine V_skip <| X_block <| X_then <| Vn [8] <| V_ret ?_
   have hE144 : unvE s who ref = 0 := by unfold unvE; rw [if_neg (fun h9 => h9 hc6)]; rw [hpa8]; dsimp only; rw [if_pos (show (GV.getC who ref s.cs).isSome = true from by simpa using hc62)]
   exact Xr (nt 0) ⟨by rw [hE144], ⟨F70, ⟨_, by rw [show unvS s who ref now = ({ s with cs := GV.delC who ref s.cs }) from by unfold unvS; rw [hE144, if_pos rfl, hpa8]; dsimp only; rw [if_neg hc83]; rw [if_neg (by rw [hc123]; decide)]]; exact ho71⟩, rel76⟩, hK0⟩
  ·
   refine Kg (record_spec F v P s who ((q8).track) _ h (by omega) (htr _ _ (by assumption))) ?_
   rintro _ w159 ⟨q149, P150, rfl, hgc154, hpp155, hgv156, hmn157, hdl158, ⟨F151, ho152, hfr153⟩, hk160⟩
   refine ⟨_, rfl, ?_⟩
   have hsz161 := Keep.size hk160
   replace hK0 := frr hK0 hk160 hFr
   have own163 : ∀ q, F151 q → 0 ≤ q := fun q hq => by rcases hfr153 q hq with h | h; (have h1 := hFo q h; have h2 := hFlt q h; omega); omega
   have lt162 := Vot.lt ho152
   have rel164 : ∀ q, F151 q → F q ∨ w.heap.size ≤ q := fun q hq => by rcases hfr153 q hq with h | h; exact hFr q h; exact .inr (by omega)
   have hqb8w159 := (show P150.pp[i8]? = some (some ⟨b8, 0, none⟩) from by rw [hpp155]; exact hpp8)
   have hgq149lt := lt162 _ (Vot.at_ ho152)
   obtain ⟨hvlhm165, hm165⟩ := Vot.vblk ho152
   have hF166 := Vot.at_ ho152
   have hvlt := hm165.lt
   have hlov := lt162 _ hF166
   have hov := own163 _ hF166
   obtain ⟨hm167, hF168⟩ := Vot.pollB ho152 hqb8w159 hps8
   have hb8lt := hm167.lt
   have hlob8 := lt162 _ hF168
   have hob8 := own163 _ hF168
   obtain ⟨bd171, hF170, hF172, hm169, hm173⟩ := Vot.recD ho152 hgc154 hd22
   have hbd171lt := hm173.lt
   have hlobd171 := lt162 _ hF172
   have hobd171 := own163 _ hF172
   have hq149lt := hm169.lt
   have hloq149 := lt162 _ hF170
   have hoq149 := own163 _ hF170
   have hneb8v : b8 ≠ v := Blk.ne hm167 hm165 (by decide)
   have hneq149v : q149 ≠ v := Blk.ne hm169 hm165 (by decide)
   have hneq149b8 : q149 ≠ b8 := Blk.ne hm169 hm167 (by decide)
   have hnebd171v : bd171 ≠ v := Blk.ne hm173 hm165 (by decide)
   have hnebd171b8 : bd171 ≠ b8 := Blk.ne hm173 hm167 (by decide)
   have hnebd171q149 : bd171 ≠ q149 := Blk.ne hm173 hm169 (by decide)
   refine On 8 [0, 1, 2, 3, 9, 10] <| Oer <| On 3 [0, 1, 2, 3, 9, 10, 35] <| Lc 12 (pt P150.gv) hm165 (by rw [List.getElem?_append_right (by rw [List.length_map]; omega), List.length_map, hvlhm165]; rfl) ?_
   refine On 6 [0, 1, 2, 3, 9, 10, 36, 37, 38] <| Kk (vget_spec F151 v P150 s who ref _ ho152) fun w176 hk177 _ => ?_
   replace hK0 := hK0.tn hk177
   replace ho152 := ho152.keep hk177 nk
   refine On 10 [0, 1, 2, 3, 9, 10, 40, 41] <| Alc_ 23 (.agg #[nt 0, .bool false, nt 0, nt 0, nt 0, nt 0]) [nt 0, .bool false, nt 0, nt 0, nt 0, nt 0] ?_
   intro b179 w179 e179 hb179 k179 z179
   have hsz180 := Keep.size k179
   replace hm165 := hm165.k0 (hk177.tr k179)
   replace hK0 := hK0.tn k179
   replace ho152 := ho152.keep k179 nk
   have hb179lt := hb179.lt
   refine Sg 0 (Vt.cells ((GV.getC who ref s.cs).getD Vt.zero)) hb179 (Vt.len _) (Vt.one _) ?_
   intro w181 hb179_184 hk182 hz183
   replace hb179_184 : Blk w181 b179 (Vt.cells ((GV.getC who ref s.cs).getD Vt.zero)) 23 := (by rwa [over_whole (by rw [Vt.len]; rfl)] at hb179_184)
   have hsz185 := Keep.size hk182
   replace hm165 := hm165.k1 hk182
   replace hK0 := Keep.fr hK0 hk182
   replace ho152 := ho152.keep hk182 (fun q hq hs => by have hs : q = b179 := hs; have g0 := own163 q hq; have g1 := lt162 q hq; omega)
   refine On 13 [0, 1, 2, 3, 9, 10, 11, 12] <| Oe <| V_seq <| Vn [0, 1, 2, 3, 9, 10, 11, 43] <| Vb (!((GV.getC who ref s.cs).isSome)) (fun hc186 => ?_) (fun hc186 => ?_)
   ·
    refine Vn [8] <| Rt ?_
    have hE187 : unvE s who ref = 4 := by unfold unvE; rw [if_neg (fun h9 => h9 hc6)]; rw [hpa8]; dsimp only; rw [if_neg (by rw [(show (GV.getC who ref s.cs).isSome = false from by simpa using hc186)]; decide)]
    exact Xr (nt 4) ⟨by rw [hE187], ⟨F151, ⟨_, by rw [show unvS s who ref now = s from by unfold unvS; rw [hE187, if_neg (by decide)]]; exact ho152⟩, rel164⟩, hK0⟩
   refine Vsk <| Vr <| On 3 [1, 2, 3, 9, 10, 11, 46] <| Lc 12 (pt P150.gv) hm165 (by rw [List.getElem?_append_right (by rw [List.length_map]; omega), List.length_map, hvlhm165]; rfl) ?_
   refine On 6 [3, 9, 10, 11, 47, 48, 49] <| Kg (vdel_spec F151 v P150 s who ref _ ho152) ?_
   rintro _ w192 ⟨rfl, ⟨F194, ho195, hfr196⟩, hk193⟩
   refine ⟨_, rfl, ?_⟩
   have hsz197 := Keep.size hk193
   replace hb179_184 := hb179_184.keep hk193 (fun hs => by have h1 := own163 _ hs; have h2 := lt162 _ hs; omega)
   replace hK0 := frr hK0 hk193 rel164
   have own199 : ∀ q, F194 q → 0 ≤ q ∧ q ≠ b179 := fun q hq => by rcases hfr196 q hq with h | h; (have h1 := own163 q h; have h2 := lt162 q h; omega); omega
   have lt198 := Vot.lt ho195
   have rel200 : ∀ q, F194 q → F q ∨ w.heap.size ≤ q := fun q hq => by rcases hfr196 q hq with h | h; exact rel164 q h; exact .inr (by omega)
   obtain ⟨hvlhm201, hm201⟩ := Vot.vblk ho195
   have hF202 := Vot.at_ ho195
   have hvlt := hm201.lt
   have hlov := lt198 _ hF202
   have hov := own199 _ hF202
   obtain ⟨hm203, hF204⟩ := Vot.pollB ho195 hqb8w159 hps8
   have hb8lt := hm203.lt
   have hlob8 := lt198 _ hF204
   have hob8 := own199 _ hF204
   obtain ⟨bd207, hF206, hF208, hm205, hm209⟩ := Vot.recD ho195 hgc154 hd22
   have hbd207lt := hm209.lt
   have hlobd207 := lt198 _ hF208
   have hobd207 := own199 _ hF208
   have hq149lt := hm205.lt
   have hloq149 := lt198 _ hF206
   have hoq149 := own199 _ hF206
   have hneb8v : b8 ≠ v := Blk.ne hm203 hm201 (by decide)
   have hneq149v : q149 ≠ v := Blk.ne hm205 hm201 (by decide)
   have hneq149b8 : q149 ≠ b8 := Blk.ne hm205 hm203 (by decide)
   have hnebd207v : bd207 ≠ v := Blk.ne hm209 hm201 (by decide)
   have hnebd207b8 : bd207 ≠ b8 := Blk.ne hm209 hm203 (by decide)
   have hnebd207q149 : bd207 ≠ q149 := Blk.ne hm209 hm205 (by decide)
   refine Oe <| V_seq <| V_block <| Vr <| On 3 [3, 9, 10, 11, 54] <| Lr 4 (nt ((q8).state)) hm203 <| Oen [3, 9, 10, 11, 51] <| Vi ((q8).state = 0) (fun hc210 => ?_) (fun hc210 => ?_)
   ·
    refine Vd1 (acts [10, 11, 14]) none_ [5, 6, 7, 8, 9, 10, 1, 2, 3, 4, 11, 0, 12, 13, 14] fun w212 hk211 he213 K216 _ => ?_
    replace hb179_184 := hb179_184.k0 hk211
    replace hm203 := hm203.k0 hk211
    replace hm205 := hm205.k0 hk211
    replace hK0 := hK0.tn hk211
    replace ho195 := ho195.keep hk211 nk
    have qhb179_184 := hb179_184
    have qhm203 := hm203
    have qhm205 := hm205
    refine Ma 0 (Vt.cells ((GV.getC who ref s.cs).getD Vt.zero)) 6 qhb179_184 id (take_all (Vt.len _)) (Vt.len _) <| Gn [9, 10, 1, 2, 3, 4, 11, 0, 12, 13, 14] [9, 62, 65] <| Ma 1 [nt (((s.rc who ((q8).track))).got.v), nt (((s.rc who ((q8).track))).got.c)] 2 qhm205 id rfl rfl <| Hg (cvGain_spec ((GV.getC who ref s.cs).getD Vt.zero) (((s.rc who ((q8).track))).got) _) ?_
    rintro _ w219 ⟨rfl, hk220⟩
    have K221 := K216.tr (Keep.ofNone hk220)
    refine ⟨_, rfl, K221, ?_⟩
    have hzK221 := Keep.size K221
    have hsz222 := Keep.size hk220
    replace hK0 := hK0.tn hk220
    replace ho195 := ho195.keep hk220 nk
    refine Gn [4, 11, 0, 12, 13, 14] [9, 60, 67] <| Ma 1 [nt ((q8).t.a), nt ((q8).t.n), nt ((q8).t.s)] 3 qhm203 id rfl rfl <| Hg (cvSub_spec ((q8).t) (gainT ((GV.getC who ref s.cs).getD Vt.zero) (((s.rc who ((q8).track))).got)) _) ?_
    rintro _ w225 ⟨rfl, hk226⟩
    have K227 := K221.tr (Keep.ofNone hk226)
    refine ⟨_, rfl, K227, ?_⟩
    have hzK227 := Keep.size K227
    have hsz228 := Keep.size hk226
    replace hm203 := hm203.k0 (hk220.tr hk226)
    replace hK0 := hK0.tn hk226
    replace ho195 := ho195.keep hk226 nk
    refine Gn [14] [68, 70] <| GI_final 14 (by kernel_rfl) (by kernel_rfl) <| Sg 1 (Tly.cells (subT ((q8).t) (gainT ((GV.getC who ref s.cs).getD Vt.zero) (((s.rc who ((q8).track))).got)))) hm203 (Tly.len _) (Tly.one _) ?_
    intro w229 hn232 hk230 hz231
    replace hn232 : Blk w229 b8 (PollS.cells { q8 with t := (subT ((q8).t) (gainT ((GV.getC who ref s.cs).getD Vt.zero) (((s.rc who ((q8).track))).got))) }) 89 := hn232
    have hsz233 := Keep.size hk230
    replace hK0 := Keep.fresh hK0 hk230 (fun i hi hs => by have hs : F194 i := (by rw [show i = b8 from hs]; exact hF204); rcases rel200 i hs with h | h; exact h; (exfalso; omega))
    obtain ⟨tv235, htv235⟩ : ∃ t9 : Tly, t9 = (subT ((q8).t) (gainT ((GV.getC who ref s.cs).getD Vt.zero) (((s.rc who ((q8).track))).got))) := ⟨_, rfl⟩
    rw [← htv235] at hn232
    have ho234 := Vot.setPoll ho195 hqb8w159 hps8 hk230 (show Blk _ _ (PollS.cells { q8 with t := tv235 }) _ from hn232)
    have hs236 : (({ s with cs := GV.delC who ref s.cs }).setP i8 { q8 with t := tv235 }).ps[i8]? = some (some { q8 with t := tv235 }) := List.getElem?_set_self (List.getElem?_eq_some_iff.1 hps8).1
    have hb8lt := hn232.lt
    refine OI_end rfl <| X_block <| X_then <| Vn [8] <| V_ret ?_
    have hE237 : unvE s who ref = 0 := by unfold unvE; rw [if_neg (fun h9 => h9 hc6)]; rw [hpa8]; dsimp only; rw [if_pos (show (GV.getC who ref s.cs).isSome = true from by simpa using hc186)]
    exact Xr (nt 0) ⟨by rw [hE237], ⟨F194, ⟨_, by rw [show unvS s who ref now = (({ s with cs := GV.delC who ref s.cs }).setP i8 { q8 with t := tv235 }) from by unfold unvS; rw [hE237, if_pos rfl, hpa8]; dsimp only; rw [if_pos hc210, show ref.toNat = i8 from by rw [hpr8]; exact Int.toNat_natCast _, htv235]]; exact ho234⟩, rel200⟩, hK0⟩
   refine V_seq <| Vd1 (acts [5]) none_ [0, 1, 2, 3, 4, 5, 6] fun w239 hk238 he240 K243 _ => ?_
   replace hb179_184 := hb179_184.k0 hk238
   replace hm203 := hm203.k0 hk238
   replace hK0 := hK0.tn hk238
   replace ho195 := ho195.keep hk238 nk
   have qhb179_184 := hb179_184
   have qhm203 := hm203
   refine Ma 0 (Vt.cells ((GV.getC who ref s.cs).getD Vt.zero)) 6 qhb179_184 id (take_all (Vt.len _)) (Vt.len _) <| Gn [4, 5, 6] [3, 9, 10, 11, 72, 75] <| Mr 4 (nt ((q8).state)) qhm203 <| Hg (won_spec ((GV.getC who ref s.cs).getD Vt.zero) ((q8).state) _) ?_
   rintro _ w246 ⟨rfl, hk247⟩
   have K248 := K243.tr (Keep.ofNone hk247)
   refine ⟨_, rfl, K248, ?_⟩
   have hzK248 := Keep.size K248
   have hsz249 := Keep.size hk247
   replace hb179_184 := hb179_184.k0 hk247
   replace hm203 := hm203.k0 hk247
   replace hm205 := hm205.k0 (hk238.tr hk247)
   replace hK0 := hK0.tn hk247
   replace ho195 := ho195.keep hk247 nk
   refine Gn [] [3, 9, 10, 11, 71] <| GI_end <| X_then <| Vb (wonV ((GV.getC who ref s.cs).getD Vt.zero) ((q8).state)) (fun hc250 => ?_) (fun hc250 => ?_)
   ·
    refine Vd1 (acts [7, 12]) none_ [5, 6, 7, 0, 1, 2, 3, 4, 8, 9, 10, 11, 12] fun w252 hk251 he253 K256 _ => ?_
    replace hb179_184 := hb179_184.k0 hk251
    replace hm203 := hm203.k0 hk251
    replace hm205 := hm205.k0 hk251
    replace hK0 := hK0.tn hk251
    replace ho195 := ho195.keep hk251 nk
    have qhb179_184 := hb179_184
    have qhm203 := hm203
    refine Gn [6, 7, 0, 1, 2, 3, 4, 8, 9, 10, 11, 12] [3, 9, 10, 11, 83] <| Mr 2 (nt (((GV.getC who ref s.cs).getD Vt.zero).level)) qhb179_184 <| Hq K256 (cvPeriod_spec (((GV.getC who ref s.cs).getD Vt.zero).level) 8 _ (lev_ok hinv (show (GV.getC who ref s.cs).isSome = true from by simpa using hc186) hc250)) <| Gn [4, 8, 9, 10, 11, 12] [3, 11, 78, 81, 85] <| Mr 5 (nt ((q8).stop)) qhm203 <| Gn [10, 11, 12] [3, 78, 86, 87] <| Mr 3 (nt (((GV.getC who ref s.cs).getD Vt.zero).a)) qhb179_184 <| Gn [12] [78, 86, 88, 89] <| GI_final 12 (by kernel_rfl) (by kernel_rfl) <| Kg (joins_spec q149 (some ⟨bd207, 0, none⟩) (s.rc who ((q8).track)) (i64.wrap (((q8).stop) + (cvPeriod (((GV.getC who ref s.cs).getD Vt.zero).level) 8))) (((GV.getC who ref s.cs).getD Vt.zero).a) now _ hm205) ?_
    rintro _ w264 ⟨rfl, hn266, hk265⟩
    refine ⟨_, rfl, ?_⟩
    have hsz267 := Keep.size hk265
    replace hK0 := Keep.fresh hK0 hk265 (fun i hi hs => by have hs : F194 i := (by rw [show i = q149 from hs]; exact hF206); rcases rel200 i hs with h | h; exact h; (exfalso; omega))
    have ho268 := Vot.setRec (a := who) (t := ((q8).track)) (r' := (joinR (s.rc who ((q8).track)) (i64.wrap (((q8).stop) + (cvPeriod (((GV.getC who ref s.cs).getD Vt.zero).level) 8))) (((GV.getC who ref s.cs).getD Vt.zero).a) now)) (dp := (some ⟨bd207, 0, none⟩)) (dp' := (some ⟨bd207, 0, none⟩)) ho195 hgc154 hm205 hk265 (show Blk _ _ (RecS.cells (some ⟨bd207, 0, none⟩) (joinR (s.rc who ((q8).track)) (i64.wrap (((q8).stop) + (cvPeriod (((GV.getC who ref s.cs).getD Vt.zero).level) 8))) (((GV.getC who ref s.cs).getD Vt.zero).a) now)) _ from hn266) (.inl ⟨rfl, by first | rfl | exact joinR_d _ _ _ _ | (rw [show ({ s with cs := GV.delC who ref s.cs }).rc who ((q8).track) = (s.rc who ((q8).track)) from rfl]) | (rw [show ({ s with cs := GV.delC who ref s.cs }).rc who ((q8).track) = (s.rc who ((q8).track)) from rfl]; exact joinR_d _ _ _ _)⟩)
    obtain ⟨r269, hr269⟩ : ∃ r9 : RecS, r9 = (joinR (s.rc who ((q8).track)) (i64.wrap (((q8).stop) + (cvPeriod (((GV.getC who ref s.cs).getD Vt.zero).level) 8))) (((GV.getC who ref s.cs).getD Vt.zero).a) now) := ⟨_, rfl⟩
    replace hn266 : Blk w264 q149 (RecS.cells (some ⟨bd207, 0, none⟩) r269) 99 := by rw [hr269]; exact hn266
    have hq149lt := hn266.lt
    refine OI_end rfl <| X_block <| X_then <| Vn [8] <| V_ret ?_
    have hE270 : unvE s who ref = 0 := by unfold unvE; rw [if_neg (fun h9 => h9 hc6)]; rw [hpa8]; dsimp only; rw [if_pos (show (GV.getC who ref s.cs).isSome = true from by simpa using hc186)]
    exact Xr (nt 0) ⟨by rw [hE270], ⟨F194, ⟨_, by rw [show unvS s who ref now = (({ s with cs := GV.delC who ref s.cs }).setR who ((q8).track) (joinR (s.rc who ((q8).track)) (i64.wrap (((q8).stop) + (cvPeriod (((GV.getC who ref s.cs).getD Vt.zero).level) 8))) (((GV.getC who ref s.cs).getD Vt.zero).a) now)) from by unfold unvS; rw [hE270, if_pos rfl, hpa8]; dsimp only; rw [if_neg hc210]; rw [if_pos hc250]]; exact ho268⟩, rel200⟩, hK0⟩
   refine V_skip <| X_block <| X_then <| Vn [8] <| V_ret ?_
   have hE271 : unvE s who ref = 0 := by unfold unvE; rw [if_neg (fun h9 => h9 hc6)]; rw [hpa8]; dsimp only; rw [if_pos (show (GV.getC who ref s.cs).isSome = true from by simpa using hc186)]
   exact Xr (nt 0) ⟨by rw [hE271], ⟨F194, ⟨_, by rw [show unvS s who ref now = ({ s with cs := GV.delC who ref s.cs }) from by unfold unvS; rw [hE271, if_pos rfl, hpa8]; dsimp only; rw [if_neg hc210]; rw [if_neg (by rw [hc250]; decide)]]; exact ho195⟩, rel200⟩, hK0⟩
end Go.Al
namespace Go.Al
open Go Go.RowKit Go.Proofs
theorem unvote_specT (F : Nat → Prop) (v : Nat) (s : VS) (who ref now : Int) (w : World) (h : VotT F w v s) : Calls Tryz.prog 25 #[pt v, nt who, nt ref, nt now] w fun e w' => e = .returned (nt (unvE s who ref)) ∧ (∃ F', VotT F' w' v (unvS s who ref now) ∧ (∀ q, F' q → F q ∨ w.heap.size ≤ q)) ∧ Keep F w w' := by
  obtain ⟨h, ht⟩ := h
  refine ((let ⟨P, h⟩ := h; unvote_at F v P s who ref now w h ht)).mono ?_
  rintro e w' ⟨rfl, ⟨F', h1, h3⟩, hk⟩
  exact ⟨rfl, ⟨F', ⟨h1, ht.unvS _ _ _⟩, h3⟩, hk⟩
end Go.Al
namespace Go.Al
open Go Go.RowKit Go.Proofs
set_option maxHeartbeats 1000000 in
theorem undelegate_at (F : Nat → Prop) (v : Nat) (P : VP) (s : VS) (who t now : Int) (w : World) (h : Vot F w v P s) : Calls Tryz.prog 23 #[pt v, nt who, nt t, nt now] w fun e w' => e = .returned (nt (undE s who t)) ∧ (∃ F', VotE F' w' v (undS s who t now) ∧ (∀ q, F' q → F q ∨ w.heap.size ≤ q)) ∧ Keep F w w' := by
 have hFlt := Vot.lt h
 have hvlt := hFlt _ (Vot.at_ h)
 have hFo : ∀ q, F q → 0 ≤ q := fun q _ => Nat.zero_le q
 have hFr : ∀ q, F q → F q ∨ w.heap.size ≤ q := fun _ h => .inl h
 have hinv := Vot.inv h
 have hK0 := Keep.refl F w
 refine eV ?_
 refine Vr <| On 1 [0, 1, 2, 3] <| Oe <| V_seq <| Vr <| On 4 [0, 1, 2, 3, 13, 14] <| Kq (isAcc_spec who _) <| On 8 [0, 1, 2, 3, 18] ?_
 by_cases hg6 : 0 ≤ who ∧ who ≤ 9
 ·
  refine Nt 18 hg6 <| On 9 [0, 1, 2, 3, 18, 19] <| Kq (isTrk_spec t _) <| Oen [0, 1, 2, 3, 22] <| V_not (0 ≤ t ∧ t ≤ 3) (by kernel_rfl) (fun hc12 => ?_) (fun hc12 => ?_)
  ·
   refine Vn [8] <| Rt ?_
   have hE13 : undE s who t = 1 := by unfold undE; rw [if_pos (.inr (hc12))]
   exact Xr (nt 1) ⟨by rw [hE13], ⟨F, ⟨_, by rw [show undS s who t now = s from by unfold undS; rw [hE13, if_neg (by decide)]]; exact h⟩, hFr⟩, hK0⟩
  refine Vsk <| Vr <| On 3 [0, 2, 3, 23, 24, 25] ?_
  rcases hd14 : (s.rc who t).d with _ | d15
  ·
   refine Kg (record_spec F v P s who t _ h (by omega) (by omega)) ?_
   rintro _ w30 ⟨q20, P21, rfl, hgc25, hpp26, hgv27, hmn28, hdl29, ⟨F22, ho23, hfr24⟩, hk31⟩
   refine ⟨_, rfl, ?_⟩
   have hsz32 := Keep.size hk31
   replace hK0 := frr hK0 hk31 hFr
   have own34 : ∀ q, F22 q → 0 ≤ q := fun q hq => by rcases hfr24 q hq with h | h; (have h1 := hFo q h; have h2 := hFlt q h; omega); omega
   have lt33 := Vot.lt ho23
   have rel35 : ∀ q, F22 q → F q ∨ w.heap.size ≤ q := fun q hq => by rcases hfr24 q hq with h | h; exact hFr q h; exact .inr (by omega)
   have hgq20lt := lt33 _ (Vot.at_ ho23)
   obtain ⟨hF37, hm36⟩ := Vot.recN ho23 hgc25 hd14
   have hq20lt := hm36.lt
   have hloq20 := lt33 _ hF37
   have hoq20 := own34 _ hF37
   refine On 5 [0, 2, 3, 9] <| Oer <| On 3 [0, 2, 3, 9, 29] <| Lr 0 (.pointer none) hm36 <| On 5 [0, 2, 3, 9, 10] <| Oe <| V_seq <| Vn [0, 2, 3, 9, 10, 32] <| Vo <| Vn [8] <| Rt ?_
   have hE38 : undE s who t = 4 := by unfold undE; rw [if_neg (by rintro (h9 | h9); exact h9 hg6; exact h9 hc12)]; rw [if_neg (by rw [hd14]; decide)]
   exact Xr (nt 4) ⟨by rw [hE38], ⟨F22, ⟨_, by rw [show undS s who t now = s from by unfold undS; rw [hE38, if_neg (by decide)]]; exact ho23⟩, rel35⟩, hK0⟩
  ·
   refine Kg (record_spec F v P s who t _ h (by omega) (by omega)) ?_
   rintro _ w53 ⟨q43, P44, rfl, hgc48, hpp49, hgv50, hmn51, hdl52, ⟨F45, ho46, hfr47⟩, hk54⟩
   refine ⟨_, rfl, ?_⟩
   have hsz55 := Keep.size hk54
   replace hK0 := frr hK0 hk54 hFr
   have own57 : ∀ q, F45 q → 0 ≤ q := fun q hq => by rcases hfr47 q hq with h | h; (have h1 := hFo q h; have h2 := hFlt q h; omega); omega
   have lt56 := Vot.lt ho46
   have rel58 : ∀ q, F45 q → F q ∨ w.heap.size ≤ q := fun q hq => by rcases hfr47 q hq with h | h; exact hFr q h; exact .inr (by omega)
   have hgq43lt := lt56 _ (Vot.at_ ho46)
   obtain ⟨bd61, hF60, hF62, hm59, hm63⟩ := Vot.recD ho46 hgc48 hd14
   have hbd61lt := hm63.lt
   have hlobd61 := lt56 _ hF62
   have hobd61 := own57 _ hF62
   have hq43lt := hm59.lt
   have hloq43 := lt56 _ hF60
   have hoq43 := own57 _ hF60
   have hnebd61q43 : bd61 ≠ q43 := Blk.ne hm63 hm59 (by decide)
   refine On 5 [0, 2, 3, 9] <| Oer <| On 3 [0, 2, 3, 9, 29] <| Lr 0 (pt bd61) hm59 <| On 5 [0, 2, 3, 9, 10] <| Oe <| V_seq <| Vn [0, 2, 3, 9, 10, 32] <| Vf <| Vsk <| Vr <| On 3 [0, 2, 3, 9, 10, 35] <| St_ 0 (.pointer none) hm59 ?_
   intro w64 hn67 hk65 hz66
   replace hn67 : Blk w64 q43 [.pointer none, nt (((s.rc who t)).got.v), nt (((s.rc who t)).got.c), nt (((s.rc who t)).till), nt (((s.rc who t)).n)] 99 := hn67
   have hsz68 := Keep.size hk65
   replace hm63 := hm63.keep hk65 (by show ¬ (bd61 = q43); omega)
   replace hK0 := Keep.fresh hK0 hk65 (fun i hi hs => by have hs : F45 i := (by rw [show i = q43 from hs]; exact hF60); rcases rel58 i hs with h | h; exact h; (exfalso; omega))
   have ho69 := Vot.setRec (a := who) (t := t) (r' := { (s.rc who t) with d := none }) (dp := (some ⟨bd61, 0, none⟩)) (dp' := none) ho46 hgc48 hm59 hk65 (show Blk _ _ (RecS.cells none { (s.rc who t) with d := none }) _ from hn67) (.inr ⟨rfl, rfl⟩)
   obtain ⟨r70, hr70⟩ : ∃ r9 : RecS, r9 = { (s.rc who t) with d := none } := ⟨_, rfl⟩
   replace hn67 : Blk w64 q43 (RecS.cells none r70) 99 := by rw [hr70]; exact hn67
   have hq43lt := hn67.lt
   refine Oe <| V_seq <| Vd1 (acts [14, 22]) none_ [6, 7, 8, 9, 10, 11, 12, 13, 14, 0, 1, 2, 3, 4, 5, 15, 16, 17, 18, 19, 20, 21, 22] fun w72 hk71 he73 K76 _ => ?_
   replace hm63 := hm63.k0 hk71
   replace hK0 := hK0.tn hk71
   replace ho69 := ho69.keep hk71 nk
   have qhm63 := hm63
   refine Gn [9, 10, 11, 12, 13, 14, 0, 1, 2, 3, 4, 5, 15, 16, 17, 18, 19, 20, 21, 22] [0, 2, 3, 9, 10, 44] <| Mr 2 (nt ((d15).n)) qhm63 <| Gn [13, 14, 0, 1, 2, 3, 4, 5, 15, 16, 17, 18, 19, 20, 21, 22] [0, 2, 3, 9, 10, 45, 48] <| Mr 1 (nt ((d15).level)) qhm63 <| Hq K76 (cvVotes_spec ((d15).n) ((d15).level) _) <| Gn [4, 5, 15, 16, 17, 18, 19, 20, 21, 22] [2, 3, 9, 10, 36, 39, 50] <| Mr 0 (nt ((d15).to)) qhm63 <| Gn [19, 20, 21, 22] [3, 9, 10, 36, 40, 41, 51, 54] <| Mr 2 (nt ((d15).n)) qhm63 <| Gn [22] [3, 9, 10, 36, 40, 41, 57] <| GI_final 22 (by kernel_rfl) (by kernel_rfl) <| Kg (gets_spec F45 v P44 (s.setR who t { (s.rc who t) with d := none }) ((d15).to) t (Wgt.mk (i64.wrap (0 - (cvVotes ((d15).n) ((d15).level)))) (i64.wrap (0 - ((d15).n)))) _ ho69 (hinv.dels _ _ _ hd14).1 (by omega)) ?_
   rintro _ w84 ⟨rfl, P86, hpp90, hgv91, hmn92, hdl93, ⟨F87, ho88, hfr89⟩, hk85⟩
   refine ⟨_, rfl, ?_⟩
   have hsz94 := Keep.size hk85
   replace hK0 := frr hK0 hk85 rel58
   have own96 : ∀ q, F87 q → 0 ≤ q := fun q hq => by rcases hfr89 q hq with h | h; (have h1 := own57 q h; have h2 := lt56 q h; omega); omega
   have lt95 := Vot.lt ho88
   have rel97 : ∀ q, F87 q → F q ∨ w.heap.size ≤ q := fun q hq => by rcases hfr89 q hq with h | h; exact rel58 q h; exact .inr (by omega)
   have hqq43w84 := hmn92 _ _ _ hgc48
   obtain ⟨hF99, hm98⟩ := Vot.recN ho88 hqq43w84 (by rw [getsS_d]; exact (by rw [show (s.setR who t { (s.rc who t) with d := none }).rc who t = r70 from ((updR_self _ _ _ _).trans hr70.symm)]; first | done | exact (by rw [hr70])))
   have hq43lt := hm98.lt
   have hloq43 := lt95 _ hF99
   have hoq43 := own96 _ hF99
   have hdkbd61 := hdl93 bd61 _ hm63
   have hbd61lt := hdkbd61.lt
   refine Oe <| V_seq <| Vd1 (acts [6, 13]) none_ [2, 3, 4, 5, 6, 0, 1, 7, 8, 9, 10, 11, 12, 13] fun w101 hk100 he102 K105 _ => ?_
   replace hm98 := hm98.k0 hk100
   replace hdkbd61 := hdkbd61.k0 hk100
   replace hK0 := hK0.tn hk100
   replace ho88 := ho88.keep hk100 nk
   have qhdkbd61 := hdkbd61
   refine Gn [5, 6, 0, 1, 7, 8, 9, 10, 11, 12, 13] [3, 9, 10, 63] <| Mr 1 (nt ((d15).level)) qhdkbd61 <| Hq K105 (cvPeriod_spec ((d15).level) 8 _ (hinv.dels _ _ _ hd14).2.1) <| Gn [11, 12, 13] [3, 59, 66, 69] <| Mr 2 (nt ((d15).n)) qhdkbd61 <| Gn [13] [59, 66, 70, 71] <| GI_final 13 (by kernel_rfl) (by kernel_rfl) <| Kg (joins_spec q43 none ((getsS (s.setR who t { (s.rc who t) with d := none }) ((d15).to) t (Wgt.mk (i64.wrap (0 - (cvVotes ((d15).n) ((d15).level)))) (i64.wrap (0 - ((d15).n))))).rc who t) (i64.wrap (now + (cvPeriod ((d15).level) 8))) ((d15).n) now _ hm98) ?_
   rintro _ w113 ⟨rfl, hn115, hk114⟩
   refine ⟨_, rfl, ?_⟩
   have hsz116 := Keep.size hk114
   replace hK0 := Keep.fresh hK0 hk114 (fun i hi hs => by have hs : F87 i := (by rw [show i = q43 from hs]; exact hF99); rcases rel97 i hs with h | h; exact h; (exfalso; omega))
   have ho117 := Vot.setRec (a := who) (t := t) (r' := (joinR ((getsS (s.setR who t { (s.rc who t) with d := none }) ((d15).to) t (Wgt.mk (i64.wrap (0 - (cvVotes ((d15).n) ((d15).level)))) (i64.wrap (0 - ((d15).n))))).rc who t) (i64.wrap (now + (cvPeriod ((d15).level) 8))) ((d15).n) now)) (dp := none) (dp' := none) ho88 hqq43w84 hm98 hk114 (show Blk _ _ (RecS.cells none (joinR ((getsS (s.setR who t { (s.rc who t) with d := none }) ((d15).to) t (Wgt.mk (i64.wrap (0 - (cvVotes ((d15).n) ((d15).level)))) (i64.wrap (0 - ((d15).n))))).rc who t) (i64.wrap (now + (cvPeriod ((d15).level) 8))) ((d15).n) now)) _ from hn115) (.inl ⟨rfl, by first | rfl | exact joinR_d _ _ _ _ | (rw [show (getsS (s.setR who t { (s.rc who t) with d := none }) ((d15).to) t (Wgt.mk (i64.wrap (0 - (cvVotes ((d15).n) ((d15).level)))) (i64.wrap (0 - ((d15).n))))).rc who t = ((getsS (s.setR who t { (s.rc who t) with d := none }) ((d15).to) t (Wgt.mk (i64.wrap (0 - (cvVotes ((d15).n) ((d15).level)))) (i64.wrap (0 - ((d15).n))))).rc who t) from rfl]) | (rw [show (getsS (s.setR who t { (s.rc who t) with d := none }) ((d15).to) t (Wgt.mk (i64.wrap (0 - (cvVotes ((d15).n) ((d15).level)))) (i64.wrap (0 - ((d15).n))))).rc who t = ((getsS (s.setR who t { (s.rc who t) with d := none }) ((d15).to) t (Wgt.mk (i64.wrap (0 - (cvVotes ((d15).n) ((d15).level)))) (i64.wrap (0 - ((d15).n))))).rc who t) from rfl]; exact joinR_d _ _ _ _)⟩)
   obtain ⟨r118, hr118⟩ : ∃ r9 : RecS, r9 = (joinR ((getsS (s.setR who t { (s.rc who t) with d := none }) ((d15).to) t (Wgt.mk (i64.wrap (0 - (cvVotes ((d15).n) ((d15).level)))) (i64.wrap (0 - ((d15).n))))).rc who t) (i64.wrap (now + (cvPeriod ((d15).level) 8))) ((d15).n) now) := ⟨_, rfl⟩
   replace hn115 : Blk w113 q43 (RecS.cells none r118) 99 := by rw [hr118]; exact hn115
   have hq43lt := hn115.lt
   refine Oer <| Oen [8] <| V_ret ?_
   have hE119 : undE s who t = 0 := by unfold undE; rw [if_neg (by rintro (h9 | h9); exact h9 hg6; exact h9 hc12)]; rw [if_pos (by rw [hd14]; rfl)]
   exact Xr (nt 0) ⟨by rw [hE119], ⟨F87, ⟨_, by rw [show undS s who t now = ((getsS (s.setR who t { (s.rc who t) with d := none }) ((d15).to) t (Wgt.mk (i64.wrap (0 - (cvVotes ((d15).n) ((d15).level)))) (i64.wrap (0 - ((d15).n))))).setR who t (joinR ((getsS (s.setR who t { (s.rc who t) with d := none }) ((d15).to) t (Wgt.mk (i64.wrap (0 - (cvVotes ((d15).n) ((d15).level)))) (i64.wrap (0 - ((d15).n))))).rc who t) (i64.wrap (now + (cvPeriod ((d15).level) 8))) ((d15).n) now)) from by unfold undS; rw [hE119, if_pos rfl, hd14]; rfl]; exact ho117⟩, rel97⟩, hK0⟩
 refine Nf 18 hg6 <| Oen [0, 1, 2, 3, 22] <| Vo <| Vn [8] <| Rt ?_
 have hE120 : undE s who t = 1 := by unfold undE; rw [if_pos (.inl hg6)]
 exact Xr (nt 1) ⟨by rw [hE120], ⟨F, ⟨_, by rw [show undS s who t now = s from by unfold undS; rw [hE120, if_neg (by decide)]]; exact h⟩, hFr⟩, hK0⟩
end Go.Al
namespace Go.Al
open Go Go.RowKit Go.Proofs
theorem undelegate_specT (F : Nat → Prop) (v : Nat) (s : VS) (who t now : Int) (w : World) (h : VotT F w v s) : Calls Tryz.prog 23 #[pt v, nt who, nt t, nt now] w fun e w' => e = .returned (nt (undE s who t)) ∧ (∃ F', VotT F' w' v (undS s who t now) ∧ (∀ q, F' q → F q ∨ w.heap.size ≤ q)) ∧ Keep F w w' := by
  obtain ⟨h, ht⟩ := h
  refine ((let ⟨P, h⟩ := h; undelegate_at F v P s who t now w h)).mono ?_
  rintro e w' ⟨rfl, ⟨F', h1, h3⟩, hk⟩
  exact ⟨rfl, ⟨F', ⟨h1, ht.undS _ _ _⟩, h3⟩, hk⟩
end Go.Al
namespace Go.Al
open Go Go.RowKit Go.Proofs
def delT (s : VS) (a t : Int) : Value := match (s.rc a t).d with | none => .tuple #[nt 0, nt 0, nt 0, .bool false] | some d => .tuple #[nt d.to, nt d.level, nt d.n, .bool true]
theorem delegating_in (F : Nat → Prop) (v : Nat) (P : VP) (s : VS) (a t : Int) (w : World) (h : Vot F w v P s)(ha : 0 ≤ a ∧ a < 10) (ht : 0 ≤ t ∧ t < 4) : Calls Tryz.prog 30 #[pt v, nt a, nt t] w fun e w' => e = .returned (delT s a t) ∧ (∃ F', VotE F' w' v s ∧ (∀ q, F' q → F q ∨ w.heap.size ≤ q)) ∧ Keep F w w' := by
 have hFlt := Vot.lt h
 have hvlt := hFlt _ (Vot.at_ h)
 have hFo : ∀ q, F q → 0 ≤ q := fun q _ => Nat.zero_le q
 have hFr : ∀ q, F q → F q ∨ w.heap.size ≤ q := fun _ h => .inl h
 have hK0 := Keep.refl F w
 refine eV ?_
 refine Vr <| On 4 [0, 1, 2] <| Oer <| On 3 [11, 12, 13] ?_
 rcases hd1 : (s.rc a t).d with _ | d2
 ·
  refine Kg (record_spec F v P s a t _ h ha ht) ?_
  rintro _ w15 ⟨q5, P6, rfl, hgc10, hpp11, hgv12, hmn13, hdl14, ⟨F7, ho8, hfr9⟩, hk16⟩
  refine ⟨_, rfl, ?_⟩
  have hsz17 := Keep.size hk16
  replace hK0 := frr hK0 hk16 hFr
  have own19 : ∀ q, F7 q → 0 ≤ q := fun q hq => by rcases hfr9 q hq with h | h; (have h1 := hFo q h; have h2 := hFlt q h; omega); omega
  have lt18 := Vot.lt ho8
  have rel20 : ∀ q, F7 q → F q ∨ w.heap.size ≤ q := fun q hq => by rcases hfr9 q hq with h | h; exact hFr q h; exact .inr (by omega)
  have hgq5lt := lt18 _ (Vot.at_ ho8)
  obtain ⟨hF22, hm21⟩ := Vot.recN ho8 hgc10 hd1
  have hq5lt := hm21.lt
  have hoq5 := own19 _ hF22
  exact On 6 [16] <| Lr 0 (.pointer none) hm21 <| On 8 [10] <| Oe <| V_seq <| Vn [10, 19] <| Vo <| Vn [6, 7, 8, 9] <| Rt <| Xr (.tuple #[nt 0, nt 0, nt 0, .bool false]) ⟨by unfold delT; rw [hd1], ⟨F7, ⟨_, ho8⟩, rel20⟩, hK0⟩
 ·
  refine Kg (record_spec F v P s a t _ h ha ht) ?_
  rintro _ w35 ⟨q25, P26, rfl, hgc30, hpp31, hgv32, hmn33, hdl34, ⟨F27, ho28, hfr29⟩, hk36⟩
  refine ⟨_, rfl, ?_⟩
  have hsz37 := Keep.size hk36
  replace hK0 := frr hK0 hk36 hFr
  have own39 : ∀ q, F27 q → 0 ≤ q := fun q hq => by rcases hfr29 q hq with h | h; (have h1 := hFo q h; have h2 := hFlt q h; omega); omega
  have lt38 := Vot.lt ho28
  have rel40 : ∀ q, F27 q → F q ∨ w.heap.size ≤ q := fun q hq => by rcases hfr29 q hq with h | h; exact hFr q h; exact .inr (by omega)
  have hgq25lt := lt38 _ (Vot.at_ ho28)
  obtain ⟨bd43, hF42, hF44, hm41, hm45⟩ := Vot.recD ho28 hgc30 hd1
  have hbd43lt := hm45.lt
  have hobd43 := own39 _ hF44
  have hq25lt := hm41.lt
  have hoq25 := own39 _ hF42
  have hnebd43q25 : bd43 ≠ q25 := Blk.ne hm45 hm41 (by decide)
  refine On 6 [16] <| Lr 0 (pt bd43) hm41 <| On 8 [10] <| Oe <| V_seq <| Vn [10, 19] <| Vf <| Vsk <| V_seq <| Vd1 (acts []) none_ [0, 1, 2, 3, 4, 5, 6, 7, 8, 9, 10, 11, 12, 13, 14, 15] fun w47 hk46 he48 K51 _ => ?_
  replace hm45 := hm45.k0 hk46
  replace hK0 := hK0.tn hk46
  replace ho28 := ho28.keep hk46 nk
  have qhm45 := hm45
  exact Gn [3, 4, 5, 6, 7, 8, 9, 10, 11, 12, 13, 14, 15] [10, 22] <| Mr 0 (nt d2.to) qhm45 <| Gn [7, 8, 9, 10, 11, 12, 13, 14, 15] [10, 23, 26] <| Mr 1 (nt d2.level) qhm45 <| Gn [11, 12, 13, 14, 15] [23, 27, 30] <| Mr 2 (nt d2.n) qhm45 <| Gn [] [6, 7, 8, 9] <| GI_end <| X_then <| Rr (.tuple #[nt d2.to, nt d2.level, nt d2.n, .bool true]) ⟨by unfold delT; rw [hd1], ⟨F27, ⟨_, ho28⟩, rel40⟩, hK0⟩
theorem delegating_out (v : Nat) (a t : Int) (w : World) (hr : ¬ ((0 ≤ a ∧ a < 10) ∧ (0 ≤ t ∧ t < 4))) : Calls Tryz.prog 30 #[pt v, nt a, nt t] w (rk_ w (.tuple #[nt 0, nt 0, nt 0, .bool false])) := by
 have hK0 := Keep.refl none_ w
 refine eV ?_
 refine Vr <| On 4 [0, 1, 2] <| Oer <| On 3 [11, 12, 13] <| Kg (record_out v a t _ hr) ?_
 rintro _ w1 ⟨q3, rfl, hgeq3, hq3, hk2⟩
 refine ⟨_, rfl, ?_⟩
 have hsz4 := Keep.size hk2
 replace hK0 := hK0.tn hk2
 have hq3lt := hq3.lt
 exact On 6 [16] <| Lr 0 (.pointer none) hq3 <| On 8 [10] <| Oe <| V_seq <| Vn [10, 19] <| Vo <| Vn [6, 7, 8, 9] <| Rt <| Xr (.tuple #[nt 0, nt 0, nt 0, .bool false]) ⟨rfl, hK0⟩
theorem delegating_spec (F : Nat → Prop) (v : Nat) (s : VS) (a t : Int) (w : World) (h : VotE F w v s) : Calls Tryz.prog 30 #[pt v, nt a, nt t] w fun e w' => e = .returned (delT s a t) ∧ (∃ F', VotE F' w' v s ∧ (∀ q, F' q → F q ∨ w.heap.size ≤ q)) ∧ Keep F w w' := by
  obtain ⟨P, hP⟩ := h
  by_cases hr : (0 ≤ a ∧ a < 10) ∧ (0 ≤ t ∧ t < 4)
  · exact delegating_in F v P s a t w hP hr.1 hr.2
  · refine (delegating_out v a t w hr).mono ?_
    rintro e w' ⟨rfl, hk⟩
    exact ⟨by unfold delT; rw [hP.rc_out hr]; rfl, VotE.same ⟨P, hP⟩ hk⟩
theorem got_in (F : Nat → Prop) (v : Nat) (P : VP) (s : VS) (a t : Int) (w : World) (h : Vot F w v P s)(ha : 0 ≤ a ∧ a < 10) (ht : 0 ≤ t ∧ t < 4) : Calls Tryz.prog 27 #[pt v, nt a, nt t] w fun e w' => e = .returned (.agg (s.rc a t).got.cells.toArray) ∧ (∃ F', VotE F' w' v s ∧ (∀ q, F' q → F q ∨ w.heap.size ≤ q)) ∧ Keep F w w' := by
 have hFlt := Vot.lt h
 have hvlt := hFlt _ (Vot.at_ h)
 have hFo : ∀ q, F q → 0 ≤ q := fun q _ => Nat.zero_le q
 have hFr : ∀ q, F q → F q ∨ w.heap.size ≤ q := fun _ h => .inl h
 have hK0 := Keep.refl F w
 refine enterM Tryz.func27 rfl [pt v, nt a, nt t] 14 rfl rfl rfl ?_
 refine Vp [(0, pt v), (1, nt a), (2, nt t)] <| Vr <| Alc_ 54 (.agg #[nt 0, nt 0]) [nt 0, nt 0] ?_
 intro b1 w1 e1 hb1 k1 z1
 have hsz2 := Keep.size k1
 replace h := h.keep k1 nk
 replace hK0 := hK0.tn k1
 have hb1lt := hb1.lt
 refine Oer <| On 3 [6, 7, 8, 9] ?_
 rcases hd3 : (s.rc a t).d with _ | d4
 ·
  refine Kg (record_spec F v P s a t _ h ha ht) ?_
  rintro _ w17 ⟨q7, P8, rfl, hgc12, hpp13, hgv14, hmn15, hdl16, ⟨F9, ho10, hfr11⟩, hk18⟩
  refine ⟨_, rfl, ?_⟩
  have hsz19 := Keep.size hk18
  replace hb1 := hb1.keep hk18 (fun hs => by have h1 := hFo _ hs; have h2 := hFlt _ hs; omega)
  replace hK0 := frr hK0 hk18 hFr
  have own21 : ∀ q, F9 q → 0 ≤ q ∧ q ≠ b1 := fun q hq => by rcases hfr11 q hq with h | h; (have h1 := hFo q h; have h2 := hFlt q h; omega); omega
  have lt20 := Vot.lt ho10
  have rel22 : ∀ q, F9 q → F q ∨ w.heap.size ≤ q := fun q hq => by rcases hfr11 q hq with h | h; exact hFr q h; exact .inr (by omega)
  have hgq7lt := lt20 _ (Vot.at_ ho10)
  obtain ⟨hF24, hm23⟩ := Vot.recN ho10 hgc12 hd3
  have hq7lt := hm23.lt
  have hoq7 := own21 _ hF24
  refine Os 6 [(6, pt b1), (12, po_ q7 1)] <| Oa 54 (.tmp 12) 1 [nt ((s.rc a t).got.v), nt ((s.rc a t).got.c)] (some 13) 2 hm23 rfl rfl <| OI_set (m := 2) (kd := true) 54 (.tmp 6) (.tmp 13) 0 (.agg #[nt ((s.rc a t).got.v), nt ((s.rc a t).got.c)]) [nt ((s.rc a t).got.v), nt ((s.rc a t).got.c)] none (by kernel_rfl) (by kernel_rfl) (by kernel_rfl) hb1 (by kernel_rfl) (by kernel_rfl) (by kernel_rfl) (Nat.le_of_ble_eq_true (by kernel_rfl)) (by simp [Value.oneCell']) ?_
  intro w25 hb1_28 hk26 hz27
  replace hb1_28 : Blk w25 b1 [nt ((s.rc a t).got.v), nt ((s.rc a t).got.c)] 54 := hb1_28
  have hsz29 := Keep.size hk26
  replace hK0 := Keep.fr hK0 hk26
  replace ho10 := ho10.keep hk26 (fun q hq hs => by have hs : q = b1 := hs; have g0 := own21 q hq; have g1 := lt20 q hq; omega)
  refine Oe <| V_ret ?_
  exact leave0 (.agg [nt ((s.rc a t).got.v), nt ((s.rc a t).got.c)].toArray) (.inl rfl) (res_agg1 (m := 2) rfl rfl (by kernel_rfl) hb1_28 rfl) ⟨rfl, ⟨F9, ⟨_, ho10⟩, rel22⟩, hK0⟩
 ·
  refine Kg (record_spec F v P s a t _ h ha ht) ?_
  rintro _ w42 ⟨q32, P33, rfl, hgc37, hpp38, hgv39, hmn40, hdl41, ⟨F34, ho35, hfr36⟩, hk43⟩
  refine ⟨_, rfl, ?_⟩
  have hsz44 := Keep.size hk43
  replace hb1 := hb1.keep hk43 (fun hs => by have h1 := hFo _ hs; have h2 := hFlt _ hs; omega)
  replace hK0 := frr hK0 hk43 hFr
  have own46 : ∀ q, F34 q → 0 ≤ q ∧ q ≠ b1 := fun q hq => by rcases hfr36 q hq with h | h; (have h1 := hFo q h; have h2 := hFlt q h; omega); omega
  have lt45 := Vot.lt ho35
  have rel47 : ∀ q, F34 q → F q ∨ w.heap.size ≤ q := fun q hq => by rcases hfr36 q hq with h | h; exact hFr q h; exact .inr (by omega)
  have hgq32lt := lt45 _ (Vot.at_ ho35)
  obtain ⟨bd50, hF49, hF51, hm48, hm52⟩ := Vot.recD ho35 hgc37 hd3
  have hbd50lt := hm52.lt
  have hobd50 := own46 _ hF51
  have hq32lt := hm48.lt
  have hoq32 := own46 _ hF49
  have hnebd50q32 : bd50 ≠ q32 := Blk.ne hm52 hm48 (by decide)
  refine Os 6 [(6, pt b1), (12, po_ q32 1)] <| Oa 54 (.tmp 12) 1 [nt ((s.rc a t).got.v), nt ((s.rc a t).got.c)] (some 13) 2 hm48 rfl rfl <| OI_set (m := 2) (kd := true) 54 (.tmp 6) (.tmp 13) 0 (.agg #[nt ((s.rc a t).got.v), nt ((s.rc a t).got.c)]) [nt ((s.rc a t).got.v), nt ((s.rc a t).got.c)] none (by kernel_rfl) (by kernel_rfl) (by kernel_rfl) hb1 (by kernel_rfl) (by kernel_rfl) (by kernel_rfl) (Nat.le_of_ble_eq_true (by kernel_rfl)) (by simp [Value.oneCell']) ?_
  intro w53 hb1_56 hk54 hz55
  replace hb1_56 : Blk w53 b1 [nt ((s.rc a t).got.v), nt ((s.rc a t).got.c)] 54 := hb1_56
  have hsz57 := Keep.size hk54
  replace hK0 := Keep.fr hK0 hk54
  replace ho35 := ho35.keep hk54 (fun q hq hs => by have hs : q = b1 := hs; have g0 := own46 q hq; have g1 := lt45 q hq; omega)
  refine Oe <| V_ret ?_
  exact leave0 (.agg [nt ((s.rc a t).got.v), nt ((s.rc a t).got.c)].toArray) (.inl rfl) (res_agg1 (m := 2) rfl rfl (by kernel_rfl) hb1_56 rfl) ⟨rfl, ⟨F34, ⟨_, ho35⟩, rel47⟩, hK0⟩
theorem got_out (v : Nat) (a t : Int) (w : World) (hr : ¬ ((0 ≤ a ∧ a < 10) ∧ (0 ≤ t ∧ t < 4))) : Calls Tryz.prog 27 #[pt v, nt a, nt t] w fun e w' => e = .returned (.agg (Wgt.cells ⟨0, 0⟩).toArray) ∧ Keep none_ w w' := by
 have hK0 := Keep.refl none_ w
 refine enterM Tryz.func27 rfl [pt v, nt a, nt t] 14 rfl rfl rfl ?_
 refine Vp [(0, pt v), (1, nt a), (2, nt t)] <| Vr <| Alc_ 54 (.agg #[nt 0, nt 0]) [nt 0, nt 0] ?_
 intro b1 w1 e1 hb1 k1 z1
 have hsz2 := Keep.size k1
 replace hK0 := hK0.tn k1
 have hb1lt := hb1.lt
 refine Oer <| On 3 [6, 7, 8, 9] <| Kg (record_out v a t _ hr) ?_
 rintro _ w3 ⟨q5, rfl, hgeq5, hq5, hk4⟩
 refine ⟨_, rfl, ?_⟩
 have hsz6 := Keep.size hk4
 replace hb1 := hb1.k0 hk4
 replace hK0 := hK0.tn hk4
 have hq5lt := hq5.lt
 refine Os 6 [(6, pt b1), (12, po_ q5 1)] <| Oa 54 (.tmp 12) 1 [nt 0, nt 0] (some 13) 2 hq5 rfl rfl <| OI_set (m := 2) (kd := true) 54 (.tmp 6) (.tmp 13) 0 (.agg #[nt 0, nt 0]) [nt 0, nt 0] none (by kernel_rfl) (by kernel_rfl) (by kernel_rfl) hb1 (by kernel_rfl) (by kernel_rfl) (by kernel_rfl) (Nat.le_of_ble_eq_true (by kernel_rfl)) (by simp [Value.oneCell']) ?_
 intro w7 hb1_10 hk8 hz9
 replace hb1_10 : Blk w7 b1 [nt 0, nt 0] 54 := hb1_10
 have hsz11 := Keep.size hk8
 replace hK0 := Keep.fr hK0 hk8
 refine Oe <| V_ret ?_
 exact leave0 (.agg [nt 0, nt 0].toArray) (.inl rfl) (res_agg1 (m := 2) rfl rfl (by kernel_rfl) hb1_10 rfl) ⟨rfl, hK0⟩
theorem got_spec (F : Nat → Prop) (v : Nat) (s : VS) (a t : Int) (w : World) (h : VotE F w v s) : Calls Tryz.prog 27 #[pt v, nt a, nt t] w fun e w' => e = .returned (.agg (s.rc a t).got.cells.toArray) ∧ (∃ F', VotE F' w' v s ∧ (∀ q, F' q → F q ∨ w.heap.size ≤ q)) ∧ Keep F w w' := by
  obtain ⟨P, hP⟩ := h
  by_cases hr : (0 ≤ a ∧ a < 10) ∧ (0 ≤ t ∧ t < 4)
  · exact got_in F v P s a t w hP hr.1 hr.2
  · refine (got_out v a t w hr).mono ?_
    rintro e w' ⟨rfl, hk⟩
    exact ⟨by rw [hP.rc_out hr]; rfl, VotE.same ⟨P, hP⟩ hk⟩
theorem prior_in (F : Nat → Prop) (v : Nat) (P : VP) (s : VS) (a t : Int) (w : World) (h : Vot F w v P s)(ha : 0 ≤ a ∧ a < 10) (ht : 0 ≤ t ∧ t < 4) : Calls Tryz.prog 31 #[pt v, nt a, nt t] w fun e w' => e = .returned (.tuple #[nt (s.rc a t).till, nt (s.rc a t).n]) ∧ (∃ F', VotE F' w' v s ∧ (∀ q, F' q → F q ∨ w.heap.size ≤ q)) ∧ Keep F w w' := by
 have hFlt := Vot.lt h
 have hvlt := hFlt _ (Vot.at_ h)
 have hFo : ∀ q, F q → 0 ≤ q := fun q _ => Nat.zero_le q
 have hFr : ∀ q, F q → F q ∨ w.heap.size ≤ q := fun _ h => .inl h
 have hK0 := Keep.refl F w
 refine eV ?_
 refine Vr <| On 2 [0, 1, 2] <| Oer <| On 3 [9, 10, 11] ?_
 rcases hd1 : (s.rc a t).d with _ | d2
 ·
  refine Kg (record_spec F v P s a t _ h ha ht) ?_
  rintro _ w15 ⟨q5, P6, rfl, hgc10, hpp11, hgv12, hmn13, hdl14, ⟨F7, ho8, hfr9⟩, hk16⟩
  refine ⟨_, rfl, ?_⟩
  have hsz17 := Keep.size hk16
  replace hK0 := frr hK0 hk16 hFr
  have own19 : ∀ q, F7 q → 0 ≤ q := fun q hq => by rcases hfr9 q hq with h | h; (have h1 := hFo q h; have h2 := hFlt q h; omega); omega
  have lt18 := Vot.lt ho8
  have rel20 : ∀ q, F7 q → F q ∨ w.heap.size ≤ q := fun q hq => by rcases hfr9 q hq with h | h; exact hFr q h; exact .inr (by omega)
  have hgq5lt := lt18 _ (Vot.at_ ho8)
  obtain ⟨hF22, hm21⟩ := Vot.recN ho8 hgc10 hd1
  have hq5lt := hm21.lt
  have hoq5 := own19 _ hF22
  refine Oen [8] <| V_seq <| Vd1 (acts []) none_ [0, 1, 2, 3, 4, 5, 6, 7, 8, 9] fun w24 hk23 he25 K28 _ => ?_
  replace hm21 := hm21.k0 hk23
  replace hK0 := hK0.tn hk23
  replace ho8 := ho8.keep hk23 nk
  have qhm21 := hm21
  exact Gn [3, 4, 5, 6, 7, 8, 9] [8, 15] <| Mr 3 (nt ((s.rc a t).till)) qhm21 <| Gn [7, 8, 9] [16, 19] <| Mr 4 (nt ((s.rc a t).n)) qhm21 <| Gn [] [6, 7] <| GI_end <| X_then <| Rr (.tuple #[nt ((s.rc a t).till), nt ((s.rc a t).n)]) ⟨rfl, ⟨F7, ⟨_, ho8⟩, rel20⟩, hK0⟩
 ·
  refine Kg (record_spec F v P s a t _ h ha ht) ?_
  rintro _ w41 ⟨q31, P32, rfl, hgc36, hpp37, hgv38, hmn39, hdl40, ⟨F33, ho34, hfr35⟩, hk42⟩
  refine ⟨_, rfl, ?_⟩
  have hsz43 := Keep.size hk42
  replace hK0 := frr hK0 hk42 hFr
  have own45 : ∀ q, F33 q → 0 ≤ q := fun q hq => by rcases hfr35 q hq with h | h; (have h1 := hFo q h; have h2 := hFlt q h; omega); omega
  have lt44 := Vot.lt ho34
  have rel46 : ∀ q, F33 q → F q ∨ w.heap.size ≤ q := fun q hq => by rcases hfr35 q hq with h | h; exact hFr q h; exact .inr (by omega)
  have hgq31lt := lt44 _ (Vot.at_ ho34)
  obtain ⟨bd49, hF48, hF50, hm47, hm51⟩ := Vot.recD ho34 hgc36 hd1
  have hbd49lt := hm51.lt
  have hobd49 := own45 _ hF50
  have hq31lt := hm47.lt
  have hoq31 := own45 _ hF48
  have hnebd49q31 : bd49 ≠ q31 := Blk.ne hm51 hm47 (by decide)
  refine Oen [8] <| V_seq <| Vd1 (acts []) none_ [0, 1, 2, 3, 4, 5, 6, 7, 8, 9] fun w53 hk52 he54 K57 _ => ?_
  replace hm47 := hm47.k0 hk52
  replace hK0 := hK0.tn hk52
  replace ho34 := ho34.keep hk52 nk
  have qhm47 := hm47
  exact Gn [3, 4, 5, 6, 7, 8, 9] [8, 15] <| Mr 3 (nt ((s.rc a t).till)) qhm47 <| Gn [7, 8, 9] [16, 19] <| Mr 4 (nt ((s.rc a t).n)) qhm47 <| Gn [] [6, 7] <| GI_end <| X_then <| Rr (.tuple #[nt ((s.rc a t).till), nt ((s.rc a t).n)]) ⟨rfl, ⟨F33, ⟨_, ho34⟩, rel46⟩, hK0⟩
theorem prior_out (v : Nat) (a t : Int) (w : World) (hr : ¬ ((0 ≤ a ∧ a < 10) ∧ (0 ≤ t ∧ t < 4))) : Calls Tryz.prog 31 #[pt v, nt a, nt t] w (rk_ w (.tuple #[nt 0, nt 0])) := by
 have hK0 := Keep.refl none_ w
 refine eV ?_
 refine Vr <| On 2 [0, 1, 2] <| Oer <| On 3 [9, 10, 11] <| Kg (record_out v a t _ hr) ?_
 rintro _ w1 ⟨q3, rfl, hgeq3, hq3, hk2⟩
 refine ⟨_, rfl, ?_⟩
 have hsz4 := Keep.size hk2
 replace hK0 := hK0.tn hk2
 have hq3lt := hq3.lt
 refine Oen [8] <| V_seq <| Vd1 (acts []) none_ [0, 1, 2, 3, 4, 5, 6, 7, 8, 9] fun w6 hk5 he7 K10 _ => ?_
 replace hq3 := hq3.k0 hk5
 replace hK0 := hK0.tn hk5
 have qhq3 := hq3
 exact Gn [3, 4, 5, 6, 7, 8, 9] [8, 15] <| Mr 3 (nt 0) qhq3 <| Gn [7, 8, 9] [16, 19] <| Mr 4 (nt 0) qhq3 <| Gn [] [6, 7] <| GI_end <| X_then <| Rr (.tuple #[nt 0, nt 0]) ⟨rfl, hK0⟩
theorem prior_spec (F : Nat → Prop) (v : Nat) (s : VS) (a t : Int) (w : World) (h : VotE F w v s) : Calls Tryz.prog 31 #[pt v, nt a, nt t] w fun e w' => e = .returned (.tuple #[nt (s.rc a t).till, nt (s.rc a t).n]) ∧ (∃ F', VotE F' w' v s ∧ (∀ q, F' q → F q ∨ w.heap.size ≤ q)) ∧ Keep F w w' := by
  obtain ⟨P, hP⟩ := h
  by_cases hr : (0 ≤ a ∧ a < 10) ∧ (0 ≤ t ∧ t < 4)
  · exact prior_in F v P s a t w hP hr.1 hr.2
  · refine (prior_out v a t w hr).mono ?_
    rintro e w' ⟨rfl, hk⟩
    exact ⟨by rw [hP.rc_out hr]; rfl, VotE.same ⟨P, hP⟩ hk⟩
end Go.Al
namespace Go.Al
open Go Go.RowKit Go.Proofs
theorem delegating_specT (F : Nat → Prop) (v : Nat) (s : VS) (a t : Int) (w : World) (h : VotT F w v s) : Calls Tryz.prog 30 #[pt v, nt a, nt t] w fun e w' => e = .returned (delT s a t) ∧ (∃ F', VotT F' w' v s ∧ (∀ q, F' q → F q ∨ w.heap.size ≤ q)) ∧ Keep F w w' := by
  obtain ⟨h, ht⟩ := h
  refine (delegating_spec F v s a t w h).mono ?_
  rintro e w' ⟨rfl, ⟨F', h1, h3⟩, hk⟩
  exact ⟨rfl, ⟨F', ⟨h1, ht⟩, h3⟩, hk⟩
theorem got_specT (F : Nat → Prop) (v : Nat) (s : VS) (a t : Int) (w : World) (h : VotT F w v s) : Calls Tryz.prog 27 #[pt v, nt a, nt t] w fun e w' => e = .returned (.agg (s.rc a t).got.cells.toArray) ∧ (∃ F', VotT F' w' v s ∧ (∀ q, F' q → F q ∨ w.heap.size ≤ q)) ∧ Keep F w w' := by
  obtain ⟨h, ht⟩ := h
  refine (got_spec F v s a t w h).mono ?_
  rintro e w' ⟨rfl, ⟨F', h1, h3⟩, hk⟩
  exact ⟨rfl, ⟨F', ⟨h1, ht⟩, h3⟩, hk⟩
theorem prior_specT (F : Nat → Prop) (v : Nat) (s : VS) (a t : Int) (w : World) (h : VotT F w v s) : Calls Tryz.prog 31 #[pt v, nt a, nt t] w fun e w' => e = .returned (.tuple #[nt (s.rc a t).till, nt (s.rc a t).n]) ∧ (∃ F', VotT F' w' v s ∧ (∀ q, F' q → F q ∨ w.heap.size ≤ q)) ∧ Keep F w w' := by
  obtain ⟨h, ht⟩ := h
  refine (prior_spec F v s a t w h).mono ?_
  rintro e w' ⟨rfl, ⟨F', h1, h3⟩, hk⟩
  exact ⟨rfl, ⟨F', ⟨h1, ht⟩, h3⟩, hk⟩
end Go.Al
namespace Go.Al
open Go Go.RowKit Go.Proofs
def knX : List Acc := newX [0, 10, 10] 10
def knV : Vt := ⟨1, true, 2, 10, 0, 0⟩
def knS1 : VS := openS VS.zero 0 1
def knS2 : VS := delS knX knS1 2 1 1 1 10
def knC2 : List Ci := delC2 knX [] knS1 2 1 1 1 10
def knS3 : VS := voteS knX knS2 1 0 knV
def knC3 : List Ci := voteC knX knC2 knS2 1 0 knV
theorem kn1 : openE VS.zero 0 1 = 0 := by kernel_rfl
theorem kn2 : delE knX knS1 2 1 1 1 10 = 0 := by kernel_rfl
theorem kn3 : voteE knX knS2 1 0 knV = 0 := by kernel_rfl
theorem kn4 : tallyT knS3 0 = ⟨30, 0, 20⟩ := by kernel_rfl
theorem kn0 : newX (msk24 ([0, 10, 10].take 10)) 10 = knX := by kernel_rfl
theorem kn5 : knC2.length < 100000 := by rw [show knC2.length = 1 by kernel_rfl]; decide
theorem known_spec (w : World) : Calls Tryz.prog 22 #[] w (rk_ w (.bool true)) := by
 have hK0 := Keep.refl none_ w
 refine eV ?_
 refine Vr <| On 1 [] <| Oer <| OI_slit (E := 3) (zv := nt 0) (sz := 1) (by_ := 8) 28 3 #[(0, (Operand.const (Value.int IntKind.i64 0))), (1, (Operand.const (Value.int IntKind.i64 10))), (2, (Operand.const (Value.int IntKind.i64 10)))] [nt 0, nt 10, nt 10] [nt 0, nt 10, nt 10] (some 5) (by kernel_rfl) (by kernel_rfl) (by kernel_rfl) (by omega) rfl (by omega) (by intro v hv; simp only [List.mem_cons, List.not_mem_nil, or_false] at hv; rcases hv with rfl | rfl | rfl <;> rfl) (by kernel_rfl) rfl ?_
 intro b1 w1 e1 hb1 k1 z1
 have hsz2 := Keep.size k1
 replace hK0 := hK0.tn k1
 have hb1lt := hb1.lt
 refine Kg (begin_weak (some ⟨b1, 0, none⟩) 3 [0, 10, 10] _ (slt_blk (xs := [0, 10, 10]) (f := intc) hb1 (fun _ => rfl) rfl).arg (by simp)) ?_
 rintro _ w5 ⟨b7, v8, l9, F10, G11, xv12, yv13, rfl, hb14, ho15, hl16, hk6, hge17, hF18, hG19, hd20⟩
 refine ⟨_, rfl, ?_⟩
 have hsz21 := Keep.size hk6
 replace hK0 := hK0.tn hk6
 have hb7lt := hb14.lt
 have own22 : ∀ q, F10 q → w1.heap.size ≤ q ∧ q ≠ b1 ∧ q ≠ b7 := fun q hq => by have h1 := hF18 q hq; omega
 have lt23 := VotT.lt ho15
 have hb7lt := hb14.lt
 have own24 : ∀ q, G11 q → w1.heap.size ≤ q ∧ q ≠ b1 ∧ q ≠ b7 := fun q hq => by have h1 := hG19 q hq; omega
 have lt25 := Led.lt hl16
 replace hl16 : Led G11 w5 l9 knX ([] : List Ci) := by rw [kn0] at hl16; exact hl16
 refine On 3 [1] <| Oe <| V_seq <| Vn [1, 8] <| Vf <| Vsk <| Vr <| On 3 [1, 11] <| Oc 31 (.tmp 11) 1 (pt v8) (some 12) hb14 rfl <| Ok (kl 16 #[(.tmp 12), (.const (nt 0)), (.const (nt 1))] #[31, 3, 3]) 16 #[pt v8, nt 0, nt 1] (some 13) (open_specT F10 v8 VS.zero 0 1 _ ho15) ?_
 rintro _ w28 ⟨rfl, ⟨F30, ho31, hfr32⟩, hk29⟩
 refine ⟨_, rfl, ?_⟩
 have hsz33 := Keep.size hk29
 replace hb14 := hb14.keep hk29 (fun hs => by have h1 := own22 _ hs; have h2 := lt23 _ hs; omega)
 replace hK0 := Keep.fresh hK0 hk29 (by intro i hi hs; first | exact hs | (exfalso; have h1 := own22 i hs; have h2 := lt23 i hs; omega) | (have h1 := own22 i hs; have h2 := lt23 i hs; show _ ∨ _; omega))
 replace hl16 := hl16.keep hk29 (fun q hq hs => hd20 q hs hq)
 have own35 : ∀ q, F30 q → w1.heap.size ≤ q ∧ q ≠ b7 := fun q hq => by rcases hfr32 q hq with h | h; (have h1 := own22 q h; have h2 := lt23 q h; omega); omega
 have lt34 := VotT.lt ho31
 have dis36 : ∀ q, F30 q → ¬ G11 q := fun q h1 h2 => by rcases hfr32 q h1 with h | h; exact hd20 q h h2; (have h4 := lt25 q h2; omega)
 replace ho31 : VotT F30 w28 v8 knS1 := by rw [show openS VS.zero 0 1 = knS1 from rfl] at ho31; exact ho31
 refine Op_ [(1, pt b7), (13, nt (openE VS.zero 0 1))] <| Oq (u := nt (openE VS.zero 0 1)) (v := nt 0) 13 (by rw [kn1]) <| Oen [1, 2] <| V_seq <| Vd1 (acts [8]) none_ [0, 1, 2, 3, 4, 5, 6, 7, 8, 9] fun w38 hk37 he39 K42 _ => ?_
 replace hb14 := hb14.k0 hk37
 replace hK0 := hK0.tn hk37
 replace hl16 := hl16.keep hk37 nk
 replace ho31 := ho31.keep hk37 nk
 have qhb14 := hb14
 refine Gn [3, 4, 5, 6, 7, 8, 9] [1, 2, 16] <| Mr 1 (pt v8) qhb14 <| Gn [7, 8, 9] [1, 2, 17, 20] <| Gc0 30 (.tmp 20) 0 (pt l9) (some 21) qhb14 rfl <| Gk0 (kl 17 #[(.tmp 17), (.tmp 21), (.const (nt 2)), (.const (nt 1)), (.const (nt 1)), (.const (nt 1)), (.const (nt 10))] #[31, 30, 3, 3, 3, 3, 3]) 17 #[pt v8, pt l9, nt 2, nt 1, nt 1, nt 1, nt 10] (some 22) (delegate_spec F30 G11 v8 l9 knS1 knX ([] : List Ci) 2 1 1 1 10 _ ho31 hl16 dis36 (by first | decide | exact kn5)) ?_
 rintro _ w45 ⟨rfl, ⟨F47, F50, ho48, ho51, hfr49, hfr52, hdis53⟩, hk46⟩
 refine ⟨_, rfl, ?_⟩
 have hsz54 := Keep.size hk46
 replace hb14 := hb14.keep hk46 (fun hs => by rcases hs with hs | hs; (have u0 := own35 _ hs; have u1 := lt34 _ hs; omega); (have u0 := own24 _ hs; have u1 := lt25 _ hs; omega))
 replace hK0 := Keep.fresh hK0 hk46 (by intro i hi hs; first | exact hs | (rcases hs with hs | hs; (have u0 := own35 i hs; have u1 := lt34 i hs; omega); (have u0 := own24 i hs; have u1 := lt25 i hs; omega)))
 have own56 : ∀ q, F47 q → w1.heap.size ≤ q ∧ q ≠ b7 := fun q hq => by rcases hfr49 q hq with h | h; (have h1 := own35 q h; have h2 := lt34 q h; omega); omega
 have lt55 := VotT.lt ho48
 have own58 : ∀ q, F50 q → w1.heap.size ≤ q ∧ q ≠ b7 := fun q hq => by rcases hfr52 q hq with h | h; (have h1 := own24 q h; have h2 := lt25 q h; omega); omega
 have lt57 := Led.lt ho51
 replace ho48 : VotT F47 w45 v8 knS2 := by rw [show delS knX knS1 2 1 1 1 10 = knS2 from rfl] at ho48; exact ho48
 replace ho51 : Led F50 w45 l9 knX knC2 := by rw [show delC2 knX ([] : List Ci) knS1 2 1 1 1 10 = knC2 from rfl] at ho51; exact ho51
 refine Gp_ [(1, pt b7), (2, nt 0), (22, nt (delE knX knS1 2 1 1 1 10))] <| Gq_ (u := nt (delE knX knS1 2 1 1 1 10)) (v := nt 0) 22 (by rw [kn2]) <| Gn [] [1, 2, 3] <| GI_end <| X_then <| V_seq <| Vd1 (acts [9]) none_ [0, 1, 2, 3, 4, 5, 6, 7, 8, 9, 10] fun w60 hk59 he61 K64 _ => ?_
 replace hb14 := hb14.k0 hk59
 replace hK0 := hK0.tn hk59
 replace ho48 := ho48.keep hk59 nk
 replace ho51 := ho51.keep hk59 nk
 have qhb14 := hb14
 refine Gn [3, 4, 5, 6, 7, 8, 9, 10] [1, 2, 3, 25] <| Mr 1 (pt v8) qhb14 <| Gn [7, 8, 9, 10] [1, 2, 3, 26, 29] <| Mr 0 (pt l9) qhb14 <| Gn [9, 10] [1, 2, 3, 26, 30, 31] <| Gk0 (kl 18 #[(.tmp 26), (.tmp 30), (.const (nt 1)), (.const (nt 0)), (.tmp 31)] #[31, 30, 3, 3, 23]) 18 #[pt v8, pt l9, nt 1, nt 0, .agg #[nt 1, .bool true, nt 2, nt 10, nt 0, nt 0]] (some 32) (vote_spec F47 F50 v8 l9 knS2 knX knC2 1 0 (Vt.mk 1 true 2 10 0 0) _ ho48 ho51 hdis53 (by first | decide | exact kn5)) ?_
 rintro _ w67 ⟨rfl, ⟨F69, F72, ho70, ho73, hfr71, hfr74, hdis75⟩, hk68⟩
 refine ⟨_, rfl, ?_⟩
 have hsz76 := Keep.size hk68
 replace hb14 := hb14.keep hk68 (fun hs => by rcases hs with hs | hs; (have u0 := own56 _ hs; have u1 := lt55 _ hs; omega); (have u0 := own58 _ hs; have u1 := lt57 _ hs; omega))
 replace hK0 := Keep.fresh hK0 hk68 (by intro i hi hs; first | exact hs | (rcases hs with hs | hs; (have u0 := own56 i hs; have u1 := lt55 i hs; omega); (have u0 := own58 i hs; have u1 := lt57 i hs; omega)))
 have own78 : ∀ q, F69 q → w1.heap.size ≤ q ∧ q ≠ b7 := fun q hq => by rcases hfr71 q hq with h | h; (have h1 := own56 q h; have h2 := lt55 q h; omega); omega
 have lt77 := VotT.lt ho70
 have own80 : ∀ q, F72 q → w1.heap.size ≤ q ∧ q ≠ b7 := fun q hq => by rcases hfr74 q hq with h | h; (have h1 := own58 q h; have h2 := lt57 q h; omega); omega
 have lt79 := Led.lt ho73
 replace ho70 : VotT F69 w67 v8 knS3 := by rw [show voteS knX knS2 1 0 (Vt.mk 1 true 2 10 0 0) = knS3 from rfl] at ho70; exact ho70
 replace ho73 : Led F72 w67 l9 knX knC3 := by rw [show voteC knX knC2 knS2 1 0 (Vt.mk 1 true 2 10 0 0) = knC3 from rfl] at ho73; exact ho73
 refine Gp_ [(1, pt b7), (2, nt 0), (3, nt 0), (32, nt (voteE knX knS2 1 0 (Vt.mk 1 true 2 10 0 0)))] <| Gq_ (u := nt (voteE knX knS2 1 0 (Vt.mk 1 true 2 10 0 0))) (v := nt 0) 32 (by rw [show voteE knX knS2 1 0 (Vt.mk 1 true 2 10 0 0) = 0 from kn3]) <| Gn [] [1, 2, 3, 4] <| GI_end <| X_then <| Vr <| On 10 [39, 42] <| Oc 31 (.tmp 42) 1 (pt v8) (some 43) hb14 rfl <| Ok (kl 20 #[(.tmp 43), (.const (nt 0))] #[31, 3]) 20 #[pt v8, nt 0] (some 44) (tally_spec F69 v8 knS3 0 _ (ho70).1) ?_
 rintro _ w81 ⟨rfl, hk82⟩
 refine ⟨_, rfl, ?_⟩
 have hsz83 := Keep.size hk82
 replace hK0 := hK0.tn hk82
 exact Op_ [(39, .bool true), (44, .agg (Tly.cells (tallyT knS3 0)).toArray)] <| Oq (u := .agg (Tly.cells (tallyT knS3 0)).toArray) (v := .agg #[nt 30, nt 0, nt 20]) 44 (by rw [kn4]; rfl) <| On 13 [39, 44, 45] <| OI_pure (some 46) ((Op.binOp BinOp.eql 43 (Operand.tmp 44) (Operand.tmp 45) 43)) (by kernel_rfl) (pure_eql_same (xs := [nt 30, nt 0, nt 20]) (by kernel_rfl) (by kernel_rfl) (by kernel_rfl) (by kernel_rfl)) <| Oen [0] <| Rr (.bool true) ⟨rfl, hK0⟩
end Go.Al
namespace Go.Al
open Go Go.RowKit Go.Proofs
def ksV : List CK := [.int .i64, .bool, .int .i64, .int .i64, .int .i64, .int .i64]
theorem lift_vt (x : List Value) (h : Flat ksV x) : ∃ y : Vt, y.cells = x := by
  match x, h with
  | [], h => exact h.elim
  | [_], h => exact h.2.elim
  | [_, _], h => exact h.2.2.elim
  | [_, _, _], h => exact h.2.2.2.elim
  | [_, _, _, _], h => exact h.2.2.2.2.elim
  | [_, _, _, _, _], h => exact h.2.2.2.2.2.elim
  | [v1, v2, v3, v4, v5, v6], h =>
    obtain ⟨⟨n1, rfl, _⟩, ⟨n2, rfl⟩, ⟨n3, rfl, _⟩, ⟨n4, rfl, _⟩, ⟨n5, rfl, _⟩, ⟨n6, rfl, _⟩, _⟩ := h
    exact ⟨⟨n1, n2, n3, n4, n5, n6⟩, rfl⟩
  | _ :: _ :: _ :: _ :: _ :: _ :: _ :: _, h => exact h.2.2.2.2.2.2.elim
end Go.Al
namespace Go.Al
open Go Go.RowKit Go.Proofs
structure Av where
  k : Int
  who : Int
  ref : Int
  tr : Int
  st : Int
  to : Int
  lv : Int
  n : Int
  v : Vt
def Av.cells (x : Av) : List Value := nt x.k :: nt x.who :: nt x.ref :: nt x.tr :: nt x.st :: nt x.to :: nt x.lv :: nt x.n :: x.v.cells
theorem Av.len (x : Av) : x.cells.length = 14 := rfl
def ksA : List CK := [.int .i64, .int .i64, .int .i64, .int .i64, .int .i64, .int .i64, .int .i64, .int .i64] ++ ksV
theorem lift_av (x : List Value) (h : Flat ksA x) : ∃ y : Av, y.cells = x := by
  match x, h with
  | [], h => exact h.elim
  | [_], h => exact h.2.elim
  | [_, _], h => exact h.2.2.elim
  | [_, _, _], h => exact h.2.2.2.elim
  | [_, _, _, _], h => exact h.2.2.2.2.elim
  | [_, _, _, _, _], h => exact h.2.2.2.2.2.elim
  | [_, _, _, _, _, _], h => exact h.2.2.2.2.2.2.elim
  | [_, _, _, _, _, _, _], h => exact h.2.2.2.2.2.2.2.elim
  | v1 :: v2 :: v3 :: v4 :: v5 :: v6 :: v7 :: v8 :: l, h =>
    obtain ⟨⟨n1, rfl, _⟩, ⟨n2, rfl, _⟩, ⟨n3, rfl, _⟩, ⟨n4, rfl, _⟩, ⟨n5, rfl, _⟩, ⟨n6, rfl, _⟩, ⟨n7, rfl, _⟩, ⟨n8, rfl, _⟩, hl⟩ := h
    obtain ⟨v, rfl⟩ := lift_vt l hl
    exact ⟨⟨n1, n2, n3, n4, n5, n6, n7, n8, v⟩, rfl⟩
def actS (z : Av) (now : Int) (s : VS) (xs : List Acc) : VS :=
  if z.k = 1 then openS s z.ref z.tr else if z.k = 2 then closeS s z.ref z.st now else if z.k = 3 then voteS xs s z.who z.ref z.v else if z.k = 4 then unvS s z.who z.ref now else if z.k = 5 then delS xs s z.who z.tr z.to z.lv z.n else if z.k = 6 then undS s z.who z.tr now else if z.k = 7 then unlS s z.who z.tr now else s
def actC (z : Av) (now : Int) (s : VS) (xs : List Acc) (cs : List Ci) : List Ci :=
  if z.k = 1 then cs else if z.k = 2 then cs else if z.k = 3 then voteC xs cs s z.who z.ref z.v else if z.k = 4 then cs else if z.k = 5 then delC2 xs cs s z.who z.tr z.to z.lv z.n else if z.k = 6 then cs else if z.k = 7 then unlC cs s z.who z.tr now else cs
def actX (z : Av) (xs : List Acc) (cs : List Ci) : List Acc :=
  if z.k = 1 then xs else if z.k = 2 then xs else if z.k = 3 then xs else if z.k = 4 then xs else if z.k = 5 then xs else if z.k = 6 then xs else if z.k = 7 then xs else if z.k = 8 then xs else transX xs cs z.who z.to z.n
def actN (z : Av) (now : Int) : Int :=
  if z.k = 1 then now else if z.k = 2 then now else if z.k = 3 then now else if z.k = 4 then now else if z.k = 5 then now else if z.k = 6 then now else if z.k = 7 then now else if z.k = 8 then imin 1073741824 (i64.wrap (now + bAnd z.n 255)) else now
section
variable {z : Av} {now : Int} {s : VS} {xs : List Acc} {cs : List Ci}
theorem act_1 (h : z.k = 1) : actS z now s xs = openS s z.ref z.tr ∧ actX z xs cs = xs ∧ actC z now s xs cs = cs ∧ actN z now = now := by
  unfold actS actX actC actN; rw [h]; exact ⟨rfl, rfl, rfl, rfl⟩
theorem act_2 (h : z.k = 2) : actS z now s xs = closeS s z.ref z.st now ∧ actX z xs cs = xs ∧ actC z now s xs cs = cs ∧ actN z now = now := by
  unfold actS actX actC actN; rw [h]; exact ⟨rfl, rfl, rfl, rfl⟩
theorem act_3 (h : z.k = 3) : actS z now s xs = voteS xs s z.who z.ref z.v ∧ actX z xs cs = xs ∧ actC z now s xs cs = voteC xs cs s z.who z.ref z.v ∧ actN z now = now := by
  unfold actS actX actC actN; rw [h]; exact ⟨rfl, rfl, rfl, rfl⟩
theorem act_4 (h : z.k = 4) : actS z now s xs = unvS s z.who z.ref now ∧ actX z xs cs = xs ∧ actC z now s xs cs = cs ∧ actN z now = now := by
  unfold actS actX actC actN; rw [h]; exact ⟨rfl, rfl, rfl, rfl⟩
theorem act_5 (h : z.k = 5) : actS z now s xs = delS xs s z.who z.tr z.to z.lv z.n ∧ actX z xs cs = xs ∧ actC z now s xs cs = delC2 xs cs s z.who z.tr z.to z.lv z.n ∧ actN z now = now := by
  unfold actS actX actC actN; rw [h]; exact ⟨rfl, rfl, rfl, rfl⟩
theorem act_6 (h : z.k = 6) : actS z now s xs = undS s z.who z.tr now ∧ actX z xs cs = xs ∧ actC z now s xs cs = cs ∧ actN z now = now := by
  unfold actS actX actC actN; rw [h]; exact ⟨rfl, rfl, rfl, rfl⟩
theorem act_7 (h : z.k = 7) : actS z now s xs = unlS s z.who z.tr now ∧ actX z xs cs = xs ∧ actC z now s xs cs = unlC cs s z.who z.tr now ∧ actN z now = now := by
  unfold actS actX actC actN; rw [h]; exact ⟨rfl, rfl, rfl, rfl⟩
theorem act_8 (h : z.k = 8) : actS z now s xs = s ∧ actX z xs cs = xs ∧ actC z now s xs cs = cs ∧ actN z now = imin 1073741824 (i64.wrap (now + bAnd z.n 255)) := by
  unfold actS actX actC actN; rw [h]; exact ⟨rfl, rfl, rfl, rfl⟩
theorem act_9 (h1 : ¬ z.k = 1) (h2 : ¬ z.k = 2) (h3 : ¬ z.k = 3) (h4 : ¬ z.k = 4) (h5 : ¬ z.k = 5) (h6 : ¬ z.k = 6) (h7 : ¬ z.k = 7) (h8 : ¬ z.k = 8) : actS z now s xs = s ∧ actX z xs cs = transX xs cs z.who z.to z.n ∧ actC z now s xs cs = cs ∧ actN z now = now := by
  unfold actS actX actC actN; simp only [if_neg h1, if_neg h2, if_neg h3, if_neg h4, if_neg h5, if_neg h6, if_neg h7, if_neg h8]; exact ⟨trivial, trivial, trivial, trivial⟩
end
set_option maxHeartbeats 1000000 in
theorem act_pl (B : Nat → Prop) (b : Nat) (s : VS) (xs : List Acc) (cs : List Ci) (now : Int) (z : Av) (w : World) (h : Pl B w b s xs cs now) (hmax : cs.length < 90000) : Calls Tryz.prog 35 #[pt b, .agg z.cells.toArray] w fun e w' => e = .returned (.bool true) ∧ (∃ B', Pl B' w' b (actS z now s xs) (actX z xs cs) (actC z now s xs cs) (actN z now) ∧ (∀ q, B' q → B q ∨ w.heap.size ≤ q)) ∧ Keep B w w' := by
 obtain ⟨hBlt, hBb, F, G, H, I, v, l, x, y, hpl⟩ := h
 have hb := hpl.blk
 have hblt := hb.lt
 have hv := hpl.hv
 have hoF : ∀ q, F q → q ≠ b := fun q hq => (hpl.inF q hq).2
 have ltF := VotT.lt hv
 have hrF : ∀ q, F q → B q ∨ w.heap.size ≤ q := fun q hq => .inl (hpl.inF q hq).1
 have hvlt := ltF _ (VotT.at_ hv)
 have hvb := hoF _ (VotT.at_ hv)
 have hl := hpl.hl
 have hoG : ∀ q, G q → q ≠ b := fun q hq => (hpl.inG q hq).2
 have ltG := Led.lt hl
 have hrG : ∀ q, G q → B q ∨ w.heap.size ≤ q := fun q hq => .inl (hpl.inG q hq).1
 have hllt := ltG _ (Led.at_ hl)
 have hlb := hoG _ (Led.at_ hl)
 have hx := hpl.hx
 have hoH : ∀ q, H q → q ≠ b := fun q hq => (hpl.inH q hq).2
 have ltH := DLd.lt hx
 have hrH : ∀ q, H q → B q ∨ w.heap.size ≤ q := fun q hq => .inl (hpl.inH q hq).1
 have hxlt := ltH _ (DLd.at_ hx)
 have hxb := hoH _ (DLd.at_ hx)
 have hy := hpl.hy
 have hoI : ∀ q, I q → q ≠ b := fun q hq => (hpl.inI q hq).2
 have ltI := DVt.lt hy
 have hrI : ∀ q, I q → B q ∨ w.heap.size ≤ q := fun q hq => .inl (hpl.inI q hq).1
 have hylt := ltI _ (DVt.at_ hy)
 have hyb := hoI _ (DVt.at_ hy)
 have hK0 := Keep.refl B w
 refine eV ?_
 refine Vr <| OI_box 60 (.tmp 1) (.agg (Av.cells z).toArray) (Av.cells z) (some 3) (by kernel_rfl) (by kernel_rfl) rfl ?_
 intro b1 w1 e1 hb1 k1 z1
 have hsz2 := Keep.size k1
 replace hb := hb.k0 k1
 replace hv := hv.keep k1 nk
 replace hl := hl.keep k1 nk
 replace hx := DLd.keep hx k1 nk
 replace hy := DVt.keep hy k1 nk
 replace hK0 := hK0.tn k1
 have hb1lt := hb1.lt
 refine On 2 [0, 3] <| Oe <| V_seq <| Vr <| On 1 [0, 3, 5] <| Lr 0 (nt z.k) hb1 <| Oe <| V_block <| Vn [0, 3, 6, 7] <| Vi (z.k = 1) (fun hc3 => ?_) (fun hc3 => ?_)
 ·
  refine V_seq <| Vd1 (acts [8, 17]) (fun q => q ≠ b1 ∧ q ≠ b) [0, 1, 2, 3, 4, 5, 6, 7, 8, 9, 10, 11, 12, 13, 14, 15, 16, 17, 18, 19] fun w5 hk4 he6 K9 _ => ?_
  replace hb := hb.k0 hk4
  replace hb1 := hb1.k0 hk4
  replace hv := hv.keep hk4 nk
  replace hl := hl.keep hk4 nk
  replace hx := DLd.keep hx hk4 nk
  replace hy := DVt.keep hy hk4 nk
  replace hK0 := hK0.tn hk4
  have qhb := hb
  have qhb1 := hb1
  refine Gn [3, 4, 5, 6, 7, 8, 9, 10, 11, 12, 13, 14, 15, 16, 17, 18, 19] [0, 3, 11] <| Mc 1 (pt v) qhb nb2 rfl <| Gn [5, 6, 7, 8, 9, 10, 11, 12, 13, 14, 15, 16, 17, 18, 19] [0, 3, 12, 13] <| Mc 2 (nt z.ref) qhb1 nb1 rfl <| Gn [7, 8, 9, 10, 11, 12, 13, 14, 15, 16, 17, 18, 19] [0, 3, 12, 14, 15] <| Mc 3 (nt z.tr) qhb1 nb1 rfl <| Hg (open_specT F v s z.ref z.tr _ hv) ?_
  rintro _ w10 ⟨rfl, ⟨F12, ho13, hfr14⟩, hk11⟩
  have K15 := Keep.fresh K9 hk11 (by intro i hi hs; have h1 := hoF i hs; have h2 := ltF i hs; show i ≠ b1 ∧ i ≠ b; omega)
  refine ⟨_, rfl, K15, ?_⟩
  have hzK15 := Keep.size K15
  have hsz16 := Keep.size hk11
  replace hb := hb.keep hk11 (fun hs => by have h1 := hoF _ hs; have h2 := ltF _ hs; omega)
  replace hl := hl.keep hk11 (fun q hq hs => hpl.fg q hs hq)
  replace hx := DLd.keep hx hk11 (fun q hq hs => hpl.fh q hs hq)
  replace hy := DVt.keep hy hk11 (fun q hq hs => hpl.fi q hs hq)
  replace hK0 := frr hK0 hk11 hrF
  have own18 : ∀ q, F12 q → q ≠ b ∧ q ≠ b ∧ q ≠ b1 := fun q hq => by rcases hfr14 q hq with h | h; (have h1 := hoF q h; have h2 := ltF q h; omega); omega
  have lt17 := VotT.lt ho13
  have rel19 : ∀ q, F12 q → B q ∨ w.heap.size ≤ q := fun q hq => by rcases hfr14 q hq with h | h; exact hrF q h; exact .inr (by omega)
  have dis20 : ∀ q, F12 q → ¬ G q := fun q h1 h2 => by rcases hfr14 q h1 with h | h; exact hpl.fg q h h2; (have h4 := ltG q h2; omega)
  have dis21 : ∀ q, F12 q → ¬ H q := fun q h1 h2 => by rcases hfr14 q h1 with h | h; exact hpl.fh q h h2; (have h4 := ltH q h2; omega)
  have dis22 : ∀ q, F12 q → ¬ I q := fun q h1 h2 => by rcases hfr14 q h1 with h | h; exact hpl.fi q h h2; (have h4 := ltI q h2; omega)
  refine Gn [12, 13, 14, 15, 16, 17, 18, 19] [3, 17, 20] <| Mc 3 (pt y) qhb nb2 rfl <| Gn [14, 15, 16, 17, 18, 19] [3, 17, 21, 22] <| Mc 2 (nt z.ref) qhb1 nb1 rfl <| Gn [16, 17, 18, 19] [17, 21, 23, 24] <| Mc 3 (nt z.tr) qhb1 nb1 rfl <| Jg (dopn_spec I y s z.ref z.tr _ hy) ?_
  rintro _ w23 ⟨rfl, ⟨F25, ho26, hfr27⟩, hk24⟩
  refine ⟨_, rfl, ?_⟩
  have hsz28 := Keep.size hk24
  replace hb := hb.keep hk24 (fun hs => by have h1 := hoI _ hs; have h2 := ltI _ hs; omega)
  replace hl := hl.keep hk24 (fun q hq hs => hpl.gi q hq hs)
  replace hx := DLd.keep hx hk24 (fun q hq hs => hpl.hi q hq hs)
  replace hK0 := frr hK0 hk24 hrI
  replace ho13 := ho13.keep hk24 (fun q hq hs => dis22 q hq hs)
  have own30 : ∀ q, F25 q → q ≠ b ∧ q ≠ b ∧ q ≠ b1 := fun q hq => by rcases hfr27 q hq with h | h; (have h1 := hoI q h; have h2 := ltI q h; omega); omega
  have lt29 := DVt.lt ho26
  have rel31 : ∀ q, F25 q → B q ∨ w.heap.size ≤ q := fun q hq => by rcases hfr27 q hq with h | h; exact hrI q h; exact .inr (by omega)
  have dis32 : ∀ q, F25 q → ¬ G q := fun q h1 h2 => by rcases hfr27 q h1 with h | h; exact hpl.gi q h2 h; (have h4 := ltG q h2; omega)
  have dis33 : ∀ q, F25 q → ¬ H q := fun q h1 h2 => by rcases hfr27 q h1 with h | h; exact hpl.hi q h2 h; (have h4 := ltH q h2; omega)
  have dis34 : ∀ q, F25 q → ¬ F12 q := fun q h1 h2 => by rcases hfr27 q h1 with h | h; exact dis22 q h2 h; (have h4 := lt17 q h2; omega)
  refine Gn [] [4] <| GI_end <| X_then <| V_ret <| X_ret_block <| X_ret_then ?_
  obtain ⟨e1, e2, e3, e4⟩ := act_1 (now := now) (s := s) (xs := xs) (cs := cs) hc3
  rw [e1, e2, e3, e4]
  exact Xr (.bool (decide (openE s z.ref z.tr = openE s z.ref z.tr))) ⟨by simp, (PlX.pack hb ho13 hl hx ho26 dis20 dis21 (fun q h1 h2 => dis34 q h2 h1) hpl.gh (fun q h1 h2 => dis32 q h2 h1) (fun q h1 h2 => dis33 q h2 h1) (fun q h => (own18 q h).1) hoG hoH (fun q h => (own30 q h).1) hBb rel19 hrG hrH rel31), hK0⟩
 refine Vn [0, 3, 6, 28] <| Vi (z.k = 2) (fun hc35 => ?_) (fun hc35 => ?_)
 ·
  refine V_seq <| Vd1 (acts [12, 25]) (fun q => q ≠ b1 ∧ q ≠ b) [0, 1, 2, 3, 4, 5, 6, 7, 8, 9, 10, 11, 12, 13, 14, 15, 16, 17, 18, 19, 20, 21, 22, 23, 24, 25, 26, 27] fun w37 hk36 he38 K41 _ => ?_
  replace hb := hb.k0 hk36
  replace hb1 := hb1.k0 hk36
  replace hv := hv.keep hk36 nk
  replace hl := hl.keep hk36 nk
  replace hx := DLd.keep hx hk36 nk
  replace hy := DVt.keep hy hk36 nk
  replace hK0 := hK0.tn hk36
  have qhb := hb
  have qhb1 := hb1
  refine Gn [3, 4, 5, 6, 7, 8, 9, 10, 11, 12, 13, 14, 15, 16, 17, 18, 19, 20, 21, 22, 23, 24, 25, 26, 27] [0, 3, 32] <| Mc 1 (pt v) qhb nb2 rfl <| Gn [5, 6, 7, 8, 9, 10, 11, 12, 13, 14, 15, 16, 17, 18, 19, 20, 21, 22, 23, 24, 25, 26, 27] [0, 3, 33, 34] <| Mc 2 (nt z.ref) qhb1 nb1 rfl <| Gn [7, 8, 9, 10, 11, 12, 13, 14, 15, 16, 17, 18, 19, 20, 21, 22, 23, 24, 25, 26, 27] [0, 3, 33, 35, 36] <| Mc 4 (nt z.st) qhb1 nb1 rfl <| Gn [11, 12, 13, 14, 15, 16, 17, 18, 19, 20, 21, 22, 23, 24, 25, 26, 27] [0, 3, 33, 35, 37, 40] <| Mc 4 (nt now) qhb nb2 rfl <| Hg (close_specT F v s z.ref z.st now _ hv) ?_
  rintro _ w42 ⟨rfl, ⟨F44, ho45, hfr46⟩, hk43⟩
  have K47 := Keep.fresh K41 hk43 (by intro i hi hs; have h1 := hoF i hs; have h2 := ltF i hs; show i ≠ b1 ∧ i ≠ b; omega)
  refine ⟨_, rfl, K47, ?_⟩
  have hzK47 := Keep.size K47
  have hsz48 := Keep.size hk43
  replace hb := hb.keep hk43 (fun hs => by have h1 := hoF _ hs; have h2 := ltF _ hs; omega)
  replace hl := hl.keep hk43 (fun q hq hs => hpl.fg q hs hq)
  replace hx := DLd.keep hx hk43 (fun q hq hs => hpl.fh q hs hq)
  replace hy := DVt.keep hy hk43 (fun q hq hs => hpl.fi q hs hq)
  replace hK0 := frr hK0 hk43 hrF
  have own50 : ∀ q, F44 q → q ≠ b ∧ q ≠ b ∧ q ≠ b1 := fun q hq => by rcases hfr46 q hq with h | h; (have h1 := hoF q h; have h2 := ltF q h; omega); omega
  have lt49 := VotT.lt ho45
  have rel51 : ∀ q, F44 q → B q ∨ w.heap.size ≤ q := fun q hq => by rcases hfr46 q hq with h | h; exact hrF q h; exact .inr (by omega)
  have dis52 : ∀ q, F44 q → ¬ G q := fun q h1 h2 => by rcases hfr46 q h1 with h | h; exact hpl.fg q h h2; (have h4 := ltG q h2; omega)
  have dis53 : ∀ q, F44 q → ¬ H q := fun q h1 h2 => by rcases hfr46 q h1 with h | h; exact hpl.fh q h h2; (have h4 := ltH q h2; omega)
  have dis54 : ∀ q, F44 q → ¬ I q := fun q h1 h2 => by rcases hfr46 q h1 with h | h; exact hpl.fi q h h2; (have h4 := ltI q h2; omega)
  refine Gn [16, 17, 18, 19, 20, 21, 22, 23, 24, 25, 26, 27] [0, 3, 42, 45] <| Mc 3 (pt y) qhb nb2 rfl <| Gn [18, 19, 20, 21, 22, 23, 24, 25, 26, 27] [0, 3, 42, 46, 47] <| Mc 2 (nt z.ref) qhb1 nb1 rfl <| Gn [20, 21, 22, 23, 24, 25, 26, 27] [0, 42, 46, 48, 49] <| Mc 4 (nt z.st) qhb1 nb1 rfl <| Gn [24, 25, 26, 27] [42, 46, 48, 50, 53] <| Mc 4 (nt now) qhb nb2 rfl <| Jg (dcls_spec I y s z.ref z.st now _ hy) ?_
  rintro _ w55 ⟨rfl, ⟨F57, ho58, hfr59⟩, hk56⟩
  refine ⟨_, rfl, ?_⟩
  have hsz60 := Keep.size hk56
  replace hb := hb.keep hk56 (fun hs => by have h1 := hoI _ hs; have h2 := ltI _ hs; omega)
  replace hl := hl.keep hk56 (fun q hq hs => hpl.gi q hq hs)
  replace hx := DLd.keep hx hk56 (fun q hq hs => hpl.hi q hq hs)
  replace hK0 := frr hK0 hk56 hrI
  replace ho45 := ho45.keep hk56 (fun q hq hs => dis54 q hq hs)
  have own62 : ∀ q, F57 q → q ≠ b ∧ q ≠ b ∧ q ≠ b1 := fun q hq => by rcases hfr59 q hq with h | h; (have h1 := hoI q h; have h2 := ltI q h; omega); omega
  have lt61 := DVt.lt ho58
  have rel63 : ∀ q, F57 q → B q ∨ w.heap.size ≤ q := fun q hq => by rcases hfr59 q hq with h | h; exact hrI q h; exact .inr (by omega)
  have dis64 : ∀ q, F57 q → ¬ G q := fun q h1 h2 => by rcases hfr59 q h1 with h | h; exact hpl.gi q h2 h; (have h4 := ltG q h2; omega)
  have dis65 : ∀ q, F57 q → ¬ H q := fun q h1 h2 => by rcases hfr59 q h1 with h | h; exact hpl.hi q h2 h; (have h4 := ltH q h2; omega)
  have dis66 : ∀ q, F57 q → ¬ F44 q := fun q h1 h2 => by rcases hfr59 q h1 with h | h; exact dis54 q h2 h; (have h4 := lt49 q h2; omega)
  refine Gn [] [4] <| GI_end <| X_then <| V_ret <| X_ret_block <| X_ret_then ?_
  obtain ⟨e1, e2, e3, e4⟩ := act_2 (now := now) (s := s) (xs := xs) (cs := cs) hc35
  rw [e1, e2, e3, e4]
  exact Xr (.bool (decide (closeE s z.ref z.st = closeE s z.ref z.st))) ⟨by simp, (PlX.pack hb ho45 hl hx ho58 dis52 dis53 (fun q h1 h2 => dis66 q h2 h1) hpl.gh (fun q h1 h2 => dis64 q h2 h1) (fun q h1 h2 => dis65 q h2 h1) (fun q h => (own50 q h).1) hoG hoH (fun q h => (own62 q h).1) hBb rel51 hrG hrH rel63), hK0⟩
 refine Vn [0, 3, 6, 57] <| Vi (z.k = 3) (fun hc67 => ?_) (fun hc67 => ?_)
 ·
  refine V_seq <| Vd1 (acts [14, 29]) (fun q => q ≠ b1 ∧ q ≠ b) [0, 1, 2, 3, 4, 5, 6, 7, 8, 9, 10, 11, 12, 13, 14, 15, 16, 17, 18, 19, 20, 21, 22, 23, 24, 25, 26, 27, 28, 29, 30, 31] fun w69 hk68 he70 K73 _ => ?_
  replace hb := hb.k0 hk68
  replace hb1 := hb1.k0 hk68
  replace hv := hv.keep hk68 nk
  replace hl := hl.keep hk68 nk
  replace hx := DLd.keep hx hk68 nk
  replace hy := DVt.keep hy hk68 nk
  replace hK0 := hK0.tn hk68
  have qhb := hb
  have qhb1 := hb1
  refine Gn [3, 4, 5, 6, 7, 8, 9, 10, 11, 12, 13, 14, 15, 16, 17, 18, 19, 20, 21, 22, 23, 24, 25, 26, 27, 28, 29, 30, 31] [0, 3, 61] <| Mc 1 (pt v) qhb nb2 rfl <| Gn [7, 8, 9, 10, 11, 12, 13, 14, 15, 16, 17, 18, 19, 20, 21, 22, 23, 24, 25, 26, 27, 28, 29, 30, 31] [0, 3, 62, 65] <| Mc 0 (pt l) qhb nb2 rfl <| Gn [9, 10, 11, 12, 13, 14, 15, 16, 17, 18, 19, 20, 21, 22, 23, 24, 25, 26, 27, 28, 29, 30, 31] [0, 3, 62, 66, 67] <| Mc 1 (nt z.who) qhb1 nb1 rfl <| Gn [11, 12, 13, 14, 15, 16, 17, 18, 19, 20, 21, 22, 23, 24, 25, 26, 27, 28, 29, 30, 31] [0, 3, 62, 66, 68, 69] <| Mc 2 (nt z.ref) qhb1 nb1 rfl <| Gn [13, 14, 15, 16, 17, 18, 19, 20, 21, 22, 23, 24, 25, 26, 27, 28, 29, 30, 31] [0, 3, 62, 66, 68, 70, 71] <| Ma 8 [nt z.v.kind, .bool z.v.aye, nt z.v.level, nt z.v.a, nt z.v.n, nt z.v.s] 6 qhb1 nb1 rfl rfl <| Hg (vote_spec F G v l s xs cs z.who z.ref z.v _ hv hl hpl.fg (by omega)) ?_
  rintro _ w74 ⟨rfl, ⟨F76, F79, ho77, ho80, hfr78, hfr81, hdis82⟩, hk75⟩
  have K83 := Keep.fresh K73 hk75 (by intro i hi hs; rcases hs with hs | hs; (have u0 := hoF i hs; have u1 := ltF i hs; show i ≠ b1 ∧ i ≠ b; omega); (have u0 := hoG i hs; have u1 := ltG i hs; show i ≠ b1 ∧ i ≠ b; omega))
  refine ⟨_, rfl, K83, ?_⟩
  have hzK83 := Keep.size K83
  have hsz84 := Keep.size hk75
  replace hb := hb.keep hk75 (fun hs => by rcases hs with hs | hs; (have u0 := hoF _ hs; have u1 := ltF _ hs; omega); (have u0 := hoG _ hs; have u1 := ltG _ hs; omega))
  replace hx := DLd.keep hx hk75 (fun q hq hs => by rcases hs with hs | hs; exact hpl.fh q hs hq; exact hpl.gh q hs hq)
  replace hy := DVt.keep hy hk75 (fun q hq hs => by rcases hs with hs | hs; exact hpl.fi q hs hq; exact hpl.gi q hs hq)
  replace hK0 := Keep.fresh hK0 hk75 (fun i hi hs => by rcases hs with hs | hs; (rcases hrF i hs with h | h; exact h; (exfalso; omega)); (rcases hrG i hs with h | h; exact h; (exfalso; omega)))
  have own86 : ∀ q, F76 q → q ≠ b ∧ q ≠ b ∧ q ≠ b1 := fun q hq => by rcases hfr78 q hq with h | h; (have h1 := hoF q h; have h2 := ltF q h; omega); omega
  have lt85 := VotT.lt ho77
  have rel87 : ∀ q, F76 q → B q ∨ w.heap.size ≤ q := fun q hq => by rcases hfr78 q hq with h | h; exact hrF q h; exact .inr (by omega)
  have dis88 : ∀ q, F76 q → ¬ H q := fun q h1 h2 => by rcases hfr78 q h1 with h | h; exact hpl.fh q h h2; (have h4 := ltH q h2; omega)
  have dis89 : ∀ q, F76 q → ¬ I q := fun q h1 h2 => by rcases hfr78 q h1 with h | h; exact hpl.fi q h h2; (have h4 := ltI q h2; omega)
  have own91 : ∀ q, F79 q → q ≠ b ∧ q ≠ b ∧ q ≠ b1 := fun q hq => by rcases hfr81 q hq with h | h; (have h1 := hoG q h; have h2 := ltG q h; omega); omega
  have lt90 := Led.lt ho80
  have rel92 : ∀ q, F79 q → B q ∨ w.heap.size ≤ q := fun q hq => by rcases hfr81 q hq with h | h; exact hrG q h; exact .inr (by omega)
  have dis93 : ∀ q, F79 q → ¬ H q := fun q h1 h2 => by rcases hfr81 q h1 with h | h; exact hpl.gh q h h2; (have h4 := ltH q h2; omega)
  have dis94 : ∀ q, F79 q → ¬ I q := fun q h1 h2 => by rcases hfr81 q h1 with h | h; exact hpl.gi q h h2; (have h4 := ltI q h2; omega)
  refine Gn [18, 19, 20, 21, 22, 23, 24, 25, 26, 27, 28, 29, 30, 31] [0, 3, 73, 76] <| Mc 3 (pt y) qhb nb2 rfl <| Gn [22, 23, 24, 25, 26, 27, 28, 29, 30, 31] [3, 73, 77, 80] <| Mc 2 (pt x) qhb nb2 rfl <| Gn [24, 25, 26, 27, 28, 29, 30, 31] [3, 73, 77, 81, 82] <| Mc 1 (nt z.who) qhb1 nb1 rfl <| Gn [26, 27, 28, 29, 30, 31] [3, 73, 77, 81, 83, 84] <| Mc 2 (nt z.ref) qhb1 nb1 rfl <| Gn [28, 29, 30, 31] [73, 77, 81, 83, 85, 86] <| Ma 8 [nt z.v.kind, .bool z.v.aye, nt z.v.level, nt z.v.a, nt z.v.n, nt z.v.s] 6 qhb1 nb1 rfl rfl <| Jg (dvote_spec I H y x s xs cs z.who z.ref z.v _ hy hx (fun q h1 h2 => hpl.hi q h2 h1) (by omega)) ?_
  rintro _ w95 ⟨rfl, ⟨F97, F100, ho98, ho101, hfr99, hfr102, hdis103⟩, hk96⟩
  refine ⟨_, rfl, ?_⟩
  have hsz104 := Keep.size hk96
  replace hb := hb.keep hk96 (fun hs => by rcases hs with hs | hs; (have u0 := hoI _ hs; have u1 := ltI _ hs; omega); (have u0 := hoH _ hs; have u1 := ltH _ hs; omega))
  replace hK0 := Keep.fresh hK0 hk96 (fun i hi hs => by rcases hs with hs | hs; (rcases hrI i hs with h | h; exact h; (exfalso; omega)); (rcases hrH i hs with h | h; exact h; (exfalso; omega)))
  replace ho77 := ho77.keep hk96 (fun q hq hs => by rcases hs with hs | hs; exact dis89 q hq hs; exact dis88 q hq hs)
  replace ho80 := ho80.keep hk96 (fun q hq hs => by rcases hs with hs | hs; exact dis94 q hq hs; exact dis93 q hq hs)
  have own106 : ∀ q, F97 q → q ≠ b ∧ q ≠ b ∧ q ≠ b1 := fun q hq => by rcases hfr99 q hq with h | h; (have h1 := hoI q h; have h2 := ltI q h; omega); omega
  have lt105 := DVt.lt ho98
  have rel107 : ∀ q, F97 q → B q ∨ w.heap.size ≤ q := fun q hq => by rcases hfr99 q hq with h | h; exact hrI q h; exact .inr (by omega)
  have dis108 : ∀ q, F97 q → ¬ F76 q := fun q h1 h2 => by rcases hfr99 q h1 with h | h; exact dis89 q h2 h; (have h4 := lt85 q h2; omega)
  have dis109 : ∀ q, F97 q → ¬ F79 q := fun q h1 h2 => by rcases hfr99 q h1 with h | h; exact dis94 q h2 h; (have h4 := lt90 q h2; omega)
  have own111 : ∀ q, F100 q → q ≠ b ∧ q ≠ b ∧ q ≠ b1 := fun q hq => by rcases hfr102 q hq with h | h; (have h1 := hoH q h; have h2 := ltH q h; omega); omega
  have lt110 := DLd.lt ho101
  have rel112 : ∀ q, F100 q → B q ∨ w.heap.size ≤ q := fun q hq => by rcases hfr102 q hq with h | h; exact hrH q h; exact .inr (by omega)
  have dis113 : ∀ q, F100 q → ¬ F76 q := fun q h1 h2 => by rcases hfr102 q h1 with h | h; exact dis88 q h2 h; (have h4 := lt85 q h2; omega)
  have dis114 : ∀ q, F100 q → ¬ F79 q := fun q h1 h2 => by rcases hfr102 q h1 with h | h; exact dis93 q h2 h; (have h4 := lt90 q h2; omega)
  refine Gn [] [4] <| GI_end <| X_then <| V_ret <| X_ret_block <| X_ret_then ?_
  obtain ⟨e1, e2, e3, e4⟩ := act_3 (now := now) (s := s) (xs := xs) (cs := cs) hc67
  rw [e1, e2, e3, e4]
  exact Xr (.bool (decide (voteE xs s z.who z.ref z.v = voteE xs s z.who z.ref z.v))) ⟨by simp, (PlX.pack hb ho77 ho80 ho101 ho98 hdis82 (fun q h1 h2 => dis113 q h2 h1) (fun q h1 h2 => dis108 q h2 h1) (fun q h1 h2 => dis114 q h2 h1) (fun q h1 h2 => dis109 q h2 h1) (fun q h1 h2 => hdis103 q h2 h1) (fun q h => (own86 q h).1) (fun q h => (own91 q h).1) (fun q h => (own111 q h).1) (fun q h => (own106 q h).1) hBb rel87 rel92 rel112 rel107), hK0⟩
 refine Vn [0, 3, 6, 90] <| Vi (z.k = 4) (fun hc115 => ?_) (fun hc115 => ?_)
 ·
  refine V_seq <| Vd1 (acts [12, 25]) (fun q => q ≠ b1 ∧ q ≠ b) [0, 1, 2, 3, 4, 5, 6, 7, 8, 9, 10, 11, 12, 13, 14, 15, 16, 17, 18, 19, 20, 21, 22, 23, 24, 25, 26, 27] fun w117 hk116 he118 K121 _ => ?_
  replace hb := hb.k0 hk116
  replace hb1 := hb1.k0 hk116
  replace hv := hv.keep hk116 nk
  replace hl := hl.keep hk116 nk
  replace hx := DLd.keep hx hk116 nk
  replace hy := DVt.keep hy hk116 nk
  replace hK0 := hK0.tn hk116
  have qhb := hb
  have qhb1 := hb1
  refine Gn [3, 4, 5, 6, 7, 8, 9, 10, 11, 12, 13, 14, 15, 16, 17, 18, 19, 20, 21, 22, 23, 24, 25, 26, 27] [0, 3, 94] <| Mc 1 (pt v) qhb nb2 rfl <| Gn [5, 6, 7, 8, 9, 10, 11, 12, 13, 14, 15, 16, 17, 18, 19, 20, 21, 22, 23, 24, 25, 26, 27] [0, 3, 95, 96] <| Mc 1 (nt z.who) qhb1 nb1 rfl <| Gn [7, 8, 9, 10, 11, 12, 13, 14, 15, 16, 17, 18, 19, 20, 21, 22, 23, 24, 25, 26, 27] [0, 3, 95, 97, 98] <| Mc 2 (nt z.ref) qhb1 nb1 rfl <| Gn [11, 12, 13, 14, 15, 16, 17, 18, 19, 20, 21, 22, 23, 24, 25, 26, 27] [0, 3, 95, 97, 99, 102] <| Mc 4 (nt now) qhb nb2 rfl <| Hg (unvote_specT F v s z.who z.ref now _ hv) ?_
  rintro _ w122 ⟨rfl, ⟨F124, ho125, hfr126⟩, hk123⟩
  have K127 := Keep.fresh K121 hk123 (by intro i hi hs; have h1 := hoF i hs; have h2 := ltF i hs; show i ≠ b1 ∧ i ≠ b; omega)
  refine ⟨_, rfl, K127, ?_⟩
  have hzK127 := Keep.size K127
  have hsz128 := Keep.size hk123
  replace hb := hb.keep hk123 (fun hs => by have h1 := hoF _ hs; have h2 := ltF _ hs; omega)
  replace hl := hl.keep hk123 (fun q hq hs => hpl.fg q hs hq)
  replace hx := DLd.keep hx hk123 (fun q hq hs => hpl.fh q hs hq)
  replace hy := DVt.keep hy hk123 (fun q hq hs => hpl.fi q hs hq)
  replace hK0 := frr hK0 hk123 hrF
  have own130 : ∀ q, F124 q → q ≠ b ∧ q ≠ b ∧ q ≠ b1 := fun q hq => by rcases hfr126 q hq with h | h; (have h1 := hoF q h; have h2 := ltF q h; omega); omega
  have lt129 := VotT.lt ho125
  have rel131 : ∀ q, F124 q → B q ∨ w.heap.size ≤ q := fun q hq => by rcases hfr126 q hq with h | h; exact hrF q h; exact .inr (by omega)
  have dis132 : ∀ q, F124 q → ¬ G q := fun q h1 h2 => by rcases hfr126 q h1 with h | h; exact hpl.fg q h h2; (have h4 := ltG q h2; omega)
  have dis133 : ∀ q, F124 q → ¬ H q := fun q h1 h2 => by rcases hfr126 q h1 with h | h; exact hpl.fh q h h2; (have h4 := ltH q h2; omega)
  have dis134 : ∀ q, F124 q → ¬ I q := fun q h1 h2 => by rcases hfr126 q h1 with h | h; exact hpl.fi q h h2; (have h4 := ltI q h2; omega)
  refine Gn [16, 17, 18, 19, 20, 21, 22, 23, 24, 25, 26, 27] [0, 3, 104, 107] <| Mc 3 (pt y) qhb nb2 rfl <| Gn [18, 19, 20, 21, 22, 23, 24, 25, 26, 27] [0, 3, 104, 108, 109] <| Mc 1 (nt z.who) qhb1 nb1 rfl <| Gn [20, 21, 22, 23, 24, 25, 26, 27] [0, 104, 108, 110, 111] <| Mc 2 (nt z.ref) qhb1 nb1 rfl <| Gn [24, 25, 26, 27] [104, 108, 110, 112, 115] <| Mc 4 (nt now) qhb nb2 rfl <| Jg (dunvote_spec I y s z.who z.ref now _ hy) ?_
  rintro _ w135 ⟨rfl, ⟨F137, ho138, hfr139⟩, hk136⟩
  refine ⟨_, rfl, ?_⟩
  have hsz140 := Keep.size hk136
  replace hb := hb.keep hk136 (fun hs => by have h1 := hoI _ hs; have h2 := ltI _ hs; omega)
  replace hl := hl.keep hk136 (fun q hq hs => hpl.gi q hq hs)
  replace hx := DLd.keep hx hk136 (fun q hq hs => hpl.hi q hq hs)
  replace hK0 := frr hK0 hk136 hrI
  replace ho125 := ho125.keep hk136 (fun q hq hs => dis134 q hq hs)
  have own142 : ∀ q, F137 q → q ≠ b ∧ q ≠ b ∧ q ≠ b1 := fun q hq => by rcases hfr139 q hq with h | h; (have h1 := hoI q h; have h2 := ltI q h; omega); omega
  have lt141 := DVt.lt ho138
  have rel143 : ∀ q, F137 q → B q ∨ w.heap.size ≤ q := fun q hq => by rcases hfr139 q hq with h | h; exact hrI q h; exact .inr (by omega)
  have dis144 : ∀ q, F137 q → ¬ G q := fun q h1 h2 => by rcases hfr139 q h1 with h | h; exact hpl.gi q h2 h; (have h4 := ltG q h2; omega)
  have dis145 : ∀ q, F137 q → ¬ H q := fun q h1 h2 => by rcases hfr139 q h1 with h | h; exact hpl.hi q h2 h; (have h4 := ltH q h2; omega)
  have dis146 : ∀ q, F137 q → ¬ F124 q := fun q h1 h2 => by rcases hfr139 q h1 with h | h; exact dis134 q h2 h; (have h4 := lt129 q h2; omega)
  refine Gn [] [4] <| GI_end <| X_then <| V_ret <| X_ret_block <| X_ret_then ?_
  obtain ⟨e1, e2, e3, e4⟩ := act_4 (now := now) (s := s) (xs := xs) (cs := cs) hc115
  rw [e1, e2, e3, e4]
  exact Xr (.bool (decide (unvE s z.who z.ref = unvE s z.who z.ref))) ⟨by simp, (PlX.pack hb ho125 hl hx ho138 dis132 dis133 (fun q h1 h2 => dis146 q h2 h1) hpl.gh (fun q h1 h2 => dis144 q h2 h1) (fun q h1 h2 => dis145 q h2 h1) (fun q h => (own130 q h).1) hoG hoH (fun q h => (own142 q h).1) hBb rel131 hrG hrH rel143), hK0⟩
 refine Vn [0, 3, 6, 119] <| Vi (z.k = 5) (fun hc147 => ?_) (fun hc147 => ?_)
 ·
  refine V_seq <| Vd1 (acts [18, 37]) (fun q => q ≠ b1 ∧ q ≠ b) [0, 1, 2, 3, 4, 5, 6, 7, 8, 9, 10, 11, 12, 13, 14, 15, 16, 17, 18, 19, 20, 21, 22, 23, 24, 25, 26, 27, 28, 29, 30, 31, 32, 33, 34, 35, 36, 37, 38, 39] fun w149 hk148 he150 K153 _ => ?_
  replace hb := hb.k0 hk148
  replace hb1 := hb1.k0 hk148
  replace hv := hv.keep hk148 nk
  replace hl := hl.keep hk148 nk
  replace hx := DLd.keep hx hk148 nk
  replace hy := DVt.keep hy hk148 nk
  replace hK0 := hK0.tn hk148
  have qhb := hb
  have qhb1 := hb1
  refine Gn [3, 4, 5, 6, 7, 8, 9, 10, 11, 12, 13, 14, 15, 16, 17, 18, 19, 20, 21, 22, 23, 24, 25, 26, 27, 28, 29, 30, 31, 32, 33, 34, 35, 36, 37, 38, 39] [0, 3, 123] <| Mc 1 (pt v) qhb nb2 rfl <| Gn [7, 8, 9, 10, 11, 12, 13, 14, 15, 16, 17, 18, 19, 20, 21, 22, 23, 24, 25, 26, 27, 28, 29, 30, 31, 32, 33, 34, 35, 36, 37, 38, 39] [0, 3, 124, 127] <| Mc 0 (pt l) qhb nb2 rfl <| Gn [9, 10, 11, 12, 13, 14, 15, 16, 17, 18, 19, 20, 21, 22, 23, 24, 25, 26, 27, 28, 29, 30, 31, 32, 33, 34, 35, 36, 37, 38, 39] [0, 3, 124, 128, 129] <| Mc 1 (nt z.who) qhb1 nb1 rfl <| Gn [11, 12, 13, 14, 15, 16, 17, 18, 19, 20, 21, 22, 23, 24, 25, 26, 27, 28, 29, 30, 31, 32, 33, 34, 35, 36, 37, 38, 39] [0, 3, 124, 128, 130, 131] <| Mc 3 (nt z.tr) qhb1 nb1 rfl <| Gn [13, 14, 15, 16, 17, 18, 19, 20, 21, 22, 23, 24, 25, 26, 27, 28, 29, 30, 31, 32, 33, 34, 35, 36, 37, 38, 39] [0, 3, 124, 128, 130, 132, 133] <| Mc 5 (nt z.to) qhb1 nb1 rfl <| Gn [15, 16, 17, 18, 19, 20, 21, 22, 23, 24, 25, 26, 27, 28, 29, 30, 31, 32, 33, 34, 35, 36, 37, 38, 39] [0, 3, 124, 128, 130, 132, 134, 135] <| Mc 6 (nt z.lv) qhb1 nb1 rfl <| Gn [17, 18, 19, 20, 21, 22, 23, 24, 25, 26, 27, 28, 29, 30, 31, 32, 33, 34, 35, 36, 37, 38, 39] [0, 3, 124, 128, 130, 132, 134, 136, 137] <| Mc 7 (nt z.n) qhb1 nb1 rfl <| Hg (delegate_spec F G v l s xs cs z.who z.tr z.to z.lv z.n _ hv hl hpl.fg (by omega)) ?_
  rintro _ w154 ⟨rfl, ⟨F156, F159, ho157, ho160, hfr158, hfr161, hdis162⟩, hk155⟩
  have K163 := Keep.fresh K153 hk155 (by intro i hi hs; rcases hs with hs | hs; (have u0 := hoF i hs; have u1 := ltF i hs; show i ≠ b1 ∧ i ≠ b; omega); (have u0 := hoG i hs; have u1 := ltG i hs; show i ≠ b1 ∧ i ≠ b; omega))
  refine ⟨_, rfl, K163, ?_⟩
  have hzK163 := Keep.size K163
  have hsz164 := Keep.size hk155
  replace hb := hb.keep hk155 (fun hs => by rcases hs with hs | hs; (have u0 := hoF _ hs; have u1 := ltF _ hs; omega); (have u0 := hoG _ hs; have u1 := ltG _ hs; omega))
  replace hx := DLd.keep hx hk155 (fun q hq hs => by rcases hs with hs | hs; exact hpl.fh q hs hq; exact hpl.gh q hs hq)
  replace hy := DVt.keep hy hk155 (fun q hq hs => by rcases hs with hs | hs; exact hpl.fi q hs hq; exact hpl.gi q hs hq)
  replace hK0 := Keep.fresh hK0 hk155 (fun i hi hs => by rcases hs with hs | hs; (rcases hrF i hs with h | h; exact h; (exfalso; omega)); (rcases hrG i hs with h | h; exact h; (exfalso; omega)))
  have own166 : ∀ q, F156 q → q ≠ b ∧ q ≠ b ∧ q ≠ b1 := fun q hq => by rcases hfr158 q hq with h | h; (have h1 := hoF q h; have h2 := ltF q h; omega); omega
  have lt165 := VotT.lt ho157
  have rel167 : ∀ q, F156 q → B q ∨ w.heap.size ≤ q := fun q hq => by rcases hfr158 q hq with h | h; exact hrF q h; exact .inr (by omega)
  have dis168 : ∀ q, F156 q → ¬ H q := fun q h1 h2 => by rcases hfr158 q h1 with h | h; exact hpl.fh q h h2; (have h4 := ltH q h2; omega)
  have dis169 : ∀ q, F156 q → ¬ I q := fun q h1 h2 => by rcases hfr158 q h1 with h | h; exact hpl.fi q h h2; (have h4 := ltI q h2; omega)
  have own171 : ∀ q, F159 q → q ≠ b ∧ q ≠ b ∧ q ≠ b1 := fun q hq => by rcases hfr161 q hq with h | h; (have h1 := hoG q h; have h2 := ltG q h; omega); omega
  have lt170 := Led.lt ho160
  have rel172 : ∀ q, F159 q → B q ∨ w.heap.size ≤ q := fun q hq => by rcases hfr161 q hq with h | h; exact hrG q h; exact .inr (by omega)
  have dis173 : ∀ q, F159 q → ¬ H q := fun q h1 h2 => by rcases hfr161 q h1 with h | h; exact hpl.gh q h h2; (have h4 := ltH q h2; omega)
  have dis174 : ∀ q, F159 q → ¬ I q := fun q h1 h2 => by rcases hfr161 q h1 with h | h; exact hpl.gi q h h2; (have h4 := ltI q h2; omega)
  refine Gn [22, 23, 24, 25, 26, 27, 28, 29, 30, 31, 32, 33, 34, 35, 36, 37, 38, 39] [0, 3, 139, 142] <| Mc 3 (pt y) qhb nb2 rfl <| Gn [26, 27, 28, 29, 30, 31, 32, 33, 34, 35, 36, 37, 38, 39] [3, 139, 143, 146] <| Mc 2 (pt x) qhb nb2 rfl <| Gn [28, 29, 30, 31, 32, 33, 34, 35, 36, 37, 38, 39] [3, 139, 143, 147, 148] <| Mc 1 (nt z.who) qhb1 nb1 rfl <| Gn [30, 31, 32, 33, 34, 35, 36, 37, 38, 39] [3, 139, 143, 147, 149, 150] <| Mc 3 (nt z.tr) qhb1 nb1 rfl <| Gn [32, 33, 34, 35, 36, 37, 38, 39] [3, 139, 143, 147, 149, 151, 152] <| Mc 5 (nt z.to) qhb1 nb1 rfl <| Gn [34, 35, 36, 37, 38, 39] [3, 139, 143, 147, 149, 151, 153, 154] <| Mc 6 (nt z.lv) qhb1 nb1 rfl <| Gn [36, 37, 38, 39] [139, 143, 147, 149, 151, 153, 155, 156] <| Mc 7 (nt z.n) qhb1 nb1 rfl <| Jg (ddelegate_spec I H y x s xs cs z.who z.tr z.to z.lv z.n _ hy hx (fun q h1 h2 => hpl.hi q h2 h1) (by omega)) ?_
  rintro _ w175 ⟨rfl, ⟨F177, F180, ho178, ho181, hfr179, hfr182, hdis183⟩, hk176⟩
  refine ⟨_, rfl, ?_⟩
  have hsz184 := Keep.size hk176
  replace hb := hb.keep hk176 (fun hs => by rcases hs with hs | hs; (have u0 := hoI _ hs; have u1 := ltI _ hs; omega); (have u0 := hoH _ hs; have u1 := ltH _ hs; omega))
  replace hK0 := Keep.fresh hK0 hk176 (fun i hi hs => by rcases hs with hs | hs; (rcases hrI i hs with h | h; exact h; (exfalso; omega)); (rcases hrH i hs with h | h; exact h; (exfalso; omega)))
  replace ho157 := ho157.keep hk176 (fun q hq hs => by rcases hs with hs | hs; exact dis169 q hq hs; exact dis168 q hq hs)
  replace ho160 := ho160.keep hk176 (fun q hq hs => by rcases hs with hs | hs; exact dis174 q hq hs; exact dis173 q hq hs)
  have own186 : ∀ q, F177 q → q ≠ b ∧ q ≠ b ∧ q ≠ b1 := fun q hq => by rcases hfr179 q hq with h | h; (have h1 := hoI q h; have h2 := ltI q h; omega); omega
  have lt185 := DVt.lt ho178
  have rel187 : ∀ q, F177 q → B q ∨ w.heap.size ≤ q := fun q hq => by rcases hfr179 q hq with h | h; exact hrI q h; exact .inr (by omega)
  have dis188 : ∀ q, F177 q → ¬ F156 q := fun q h1 h2 => by rcases hfr179 q h1 with h | h; exact dis169 q h2 h; (have h4 := lt165 q h2; omega)
  have dis189 : ∀ q, F177 q → ¬ F159 q := fun q h1 h2 => by rcases hfr179 q h1 with h | h; exact dis174 q h2 h; (have h4 := lt170 q h2; omega)
  have own191 : ∀ q, F180 q → q ≠ b ∧ q ≠ b ∧ q ≠ b1 := fun q hq => by rcases hfr182 q hq with h | h; (have h1 := hoH q h; have h2 := ltH q h; omega); omega
  have lt190 := DLd.lt ho181
  have rel192 : ∀ q, F180 q → B q ∨ w.heap.size ≤ q := fun q hq => by rcases hfr182 q hq with h | h; exact hrH q h; exact .inr (by omega)
  have dis193 : ∀ q, F180 q → ¬ F156 q := fun q h1 h2 => by rcases hfr182 q h1 with h | h; exact dis168 q h2 h; (have h4 := lt165 q h2; omega)
  have dis194 : ∀ q, F180 q → ¬ F159 q := fun q h1 h2 => by rcases hfr182 q h1 with h | h; exact dis173 q h2 h; (have h4 := lt170 q h2; omega)
  refine Gn [] [4] <| GI_end <| X_then <| V_ret <| X_ret_block <| X_ret_then ?_
  obtain ⟨e1, e2, e3, e4⟩ := act_5 (now := now) (s := s) (xs := xs) (cs := cs) hc147
  rw [e1, e2, e3, e4]
  exact Xr (.bool (decide (delE xs s z.who z.tr z.to z.lv z.n = delE xs s z.who z.tr z.to z.lv z.n))) ⟨by simp, (PlX.pack hb ho157 ho160 ho181 ho178 hdis162 (fun q h1 h2 => dis193 q h2 h1) (fun q h1 h2 => dis188 q h2 h1) (fun q h1 h2 => dis194 q h2 h1) (fun q h1 h2 => dis189 q h2 h1) (fun q h1 h2 => hdis183 q h2 h1) (fun q h => (own166 q h).1) (fun q h => (own171 q h).1) (fun q h => (own191 q h).1) (fun q h => (own186 q h).1) hBb rel167 rel172 rel192 rel187), hK0⟩
 refine Vn [0, 3, 6, 160] <| Vi (z.k = 6) (fun hc195 => ?_) (fun hc195 => ?_)
 ·
  refine V_seq <| Vd1 (acts [12, 25]) (fun q => q ≠ b1 ∧ q ≠ b) [0, 1, 2, 3, 4, 5, 6, 7, 8, 9, 10, 11, 12, 13, 14, 15, 16, 17, 18, 19, 20, 21, 22, 23, 24, 25, 26, 27] fun w197 hk196 he198 K201 _ => ?_
  replace hb := hb.k0 hk196
  replace hb1 := hb1.k0 hk196
  replace hv := hv.keep hk196 nk
  replace hl := hl.keep hk196 nk
  replace hx := DLd.keep hx hk196 nk
  replace hy := DVt.keep hy hk196 nk
  replace hK0 := hK0.tn hk196
  have qhb := hb
  have qhb1 := hb1
  refine Gn [3, 4, 5, 6, 7, 8, 9, 10, 11, 12, 13, 14, 15, 16, 17, 18, 19, 20, 21, 22, 23, 24, 25, 26, 27] [0, 3, 164] <| Mc 1 (pt v) qhb nb2 rfl <| Gn [5, 6, 7, 8, 9, 10, 11, 12, 13, 14, 15, 16, 17, 18, 19, 20, 21, 22, 23, 24, 25, 26, 27] [0, 3, 165, 166] <| Mc 1 (nt z.who) qhb1 nb1 rfl <| Gn [7, 8, 9, 10, 11, 12, 13, 14, 15, 16, 17, 18, 19, 20, 21, 22, 23, 24, 25, 26, 27] [0, 3, 165, 167, 168] <| Mc 3 (nt z.tr) qhb1 nb1 rfl <| Gn [11, 12, 13, 14, 15, 16, 17, 18, 19, 20, 21, 22, 23, 24, 25, 26, 27] [0, 3, 165, 167, 169, 172] <| Mc 4 (nt now) qhb nb2 rfl <| Hg (undelegate_specT F v s z.who z.tr now _ hv) ?_
  rintro _ w202 ⟨rfl, ⟨F204, ho205, hfr206⟩, hk203⟩
  have K207 := Keep.fresh K201 hk203 (by intro i hi hs; have h1 := hoF i hs; have h2 := ltF i hs; show i ≠ b1 ∧ i ≠ b; omega)
  refine ⟨_, rfl, K207, ?_⟩
  have hzK207 := Keep.size K207
  have hsz208 := Keep.size hk203
  replace hb := hb.keep hk203 (fun hs => by have h1 := hoF _ hs; have h2 := ltF _ hs; omega)
  replace hl := hl.keep hk203 (fun q hq hs => hpl.fg q hs hq)
  replace hx := DLd.keep hx hk203 (fun q hq hs => hpl.fh q hs hq)
  replace hy := DVt.keep hy hk203 (fun q hq hs => hpl.fi q hs hq)
  replace hK0 := frr hK0 hk203 hrF
  have own210 : ∀ q, F204 q → q ≠ b ∧ q ≠ b ∧ q ≠ b1 := fun q hq => by rcases hfr206 q hq with h | h; (have h1 := hoF q h; have h2 := ltF q h; omega); omega
  have lt209 := VotT.lt ho205
  have rel211 : ∀ q, F204 q → B q ∨ w.heap.size ≤ q := fun q hq => by rcases hfr206 q hq with h | h; exact hrF q h; exact .inr (by omega)
  have dis212 : ∀ q, F204 q → ¬ G q := fun q h1 h2 => by rcases hfr206 q h1 with h | h; exact hpl.fg q h h2; (have h4 := ltG q h2; omega)
  have dis213 : ∀ q, F204 q → ¬ H q := fun q h1 h2 => by rcases hfr206 q h1 with h | h; exact hpl.fh q h h2; (have h4 := ltH q h2; omega)
  have dis214 : ∀ q, F204 q → ¬ I q := fun q h1 h2 => by rcases hfr206 q h1 with h | h; exact hpl.fi q h h2; (have h4 := ltI q h2; omega)
  refine Gn [16, 17, 18, 19, 20, 21, 22, 23, 24, 25, 26, 27] [0, 3, 174, 177] <| Mc 3 (pt y) qhb nb2 rfl <| Gn [18, 19, 20, 21, 22, 23, 24, 25, 26, 27] [0, 3, 174, 178, 179] <| Mc 1 (nt z.who) qhb1 nb1 rfl <| Gn [20, 21, 22, 23, 24, 25, 26, 27] [0, 174, 178, 180, 181] <| Mc 3 (nt z.tr) qhb1 nb1 rfl <| Gn [24, 25, 26, 27] [174, 178, 180, 182, 185] <| Mc 4 (nt now) qhb nb2 rfl <| Jg (dundelegate_spec I y s z.who z.tr now _ hy) ?_
  rintro _ w215 ⟨rfl, ⟨F217, ho218, hfr219⟩, hk216⟩
  refine ⟨_, rfl, ?_⟩
  have hsz220 := Keep.size hk216
  replace hb := hb.keep hk216 (fun hs => by have h1 := hoI _ hs; have h2 := ltI _ hs; omega)
  replace hl := hl.keep hk216 (fun q hq hs => hpl.gi q hq hs)
  replace hx := DLd.keep hx hk216 (fun q hq hs => hpl.hi q hq hs)
  replace hK0 := frr hK0 hk216 hrI
  replace ho205 := ho205.keep hk216 (fun q hq hs => dis214 q hq hs)
  have own222 : ∀ q, F217 q → q ≠ b ∧ q ≠ b ∧ q ≠ b1 := fun q hq => by rcases hfr219 q hq with h | h; (have h1 := hoI q h; have h2 := ltI q h; omega); omega
  have lt221 := DVt.lt ho218
  have rel223 : ∀ q, F217 q → B q ∨ w.heap.size ≤ q := fun q hq => by rcases hfr219 q hq with h | h; exact hrI q h; exact .inr (by omega)
  have dis224 : ∀ q, F217 q → ¬ G q := fun q h1 h2 => by rcases hfr219 q h1 with h | h; exact hpl.gi q h2 h; (have h4 := ltG q h2; omega)
  have dis225 : ∀ q, F217 q → ¬ H q := fun q h1 h2 => by rcases hfr219 q h1 with h | h; exact hpl.hi q h2 h; (have h4 := ltH q h2; omega)
  have dis226 : ∀ q, F217 q → ¬ F204 q := fun q h1 h2 => by rcases hfr219 q h1 with h | h; exact dis214 q h2 h; (have h4 := lt209 q h2; omega)
  refine Gn [] [4] <| GI_end <| X_then <| V_ret <| X_ret_block <| X_ret_then ?_
  obtain ⟨e1, e2, e3, e4⟩ := act_6 (now := now) (s := s) (xs := xs) (cs := cs) hc195
  rw [e1, e2, e3, e4]
  exact Xr (.bool (decide (undE s z.who z.tr = undE s z.who z.tr))) ⟨by simp, (PlX.pack hb ho205 hl hx ho218 dis212 dis213 (fun q h1 h2 => dis226 q h2 h1) hpl.gh (fun q h1 h2 => dis224 q h2 h1) (fun q h1 h2 => dis225 q h2 h1) (fun q h => (own210 q h).1) hoG hoH (fun q h => (own222 q h).1) hBb rel211 hrG hrH rel223), hK0⟩
 refine Vn [0, 3, 6, 189] <| Vi (z.k = 7) (fun hc227 => ?_) (fun hc227 => ?_)
 ·
  refine V_seq <| Vd1 (acts [16, 33]) (fun q => q ≠ b1 ∧ q ≠ b) [0, 1, 2, 3, 4, 5, 6, 7, 8, 9, 10, 11, 12, 13, 14, 15, 16, 17, 18, 19, 20, 21, 22, 23, 24, 25, 26, 27, 28, 29, 30, 31, 32, 33, 34, 35] fun w229 hk228 he230 K233 _ => ?_
  replace hb := hb.k0 hk228
  replace hb1 := hb1.k0 hk228
  replace hv := hv.keep hk228 nk
  replace hl := hl.keep hk228 nk
  replace hx := DLd.keep hx hk228 nk
  replace hy := DVt.keep hy hk228 nk
  replace hK0 := hK0.tn hk228
  have qhb := hb
  have qhb1 := hb1
  refine Gn [3, 4, 5, 6, 7, 8, 9, 10, 11, 12, 13, 14, 15, 16, 17, 18, 19, 20, 21, 22, 23, 24, 25, 26, 27, 28, 29, 30, 31, 32, 33, 34, 35] [0, 3, 193] <| Mc 1 (pt v) qhb nb2 rfl <| Gn [7, 8, 9, 10, 11, 12, 13, 14, 15, 16, 17, 18, 19, 20, 21, 22, 23, 24, 25, 26, 27, 28, 29, 30, 31, 32, 33, 34, 35] [0, 3, 194, 197] <| Mc 0 (pt l) qhb nb2 rfl <| Gn [9, 10, 11, 12, 13, 14, 15, 16, 17, 18, 19, 20, 21, 22, 23, 24, 25, 26, 27, 28, 29, 30, 31, 32, 33, 34, 35] [0, 3, 194, 198, 199] <| Mc 1 (nt z.who) qhb1 nb1 rfl <| Gn [11, 12, 13, 14, 15, 16, 17, 18, 19, 20, 21, 22, 23, 24, 25, 26, 27, 28, 29, 30, 31, 32, 33, 34, 35] [0, 3, 194, 198, 200, 201] <| Mc 3 (nt z.tr) qhb1 nb1 rfl <| Gn [15, 16, 17, 18, 19, 20, 21, 22, 23, 24, 25, 26, 27, 28, 29, 30, 31, 32, 33, 34, 35] [0, 3, 194, 198, 200, 202, 205] <| Mc 4 (nt now) qhb nb2 rfl <| Hg (unlock_spec F G v l s xs cs z.who z.tr now _ hv hl hpl.fg (by omega)) ?_
  rintro _ w234 ⟨rfl, ⟨F236, F239, ho237, ho240, hfr238, hfr241, hdis242⟩, hk235⟩
  have K243 := Keep.fresh K233 hk235 (by intro i hi hs; rcases hs with hs | hs; (have u0 := hoF i hs; have u1 := ltF i hs; show i ≠ b1 ∧ i ≠ b; omega); (have u0 := hoG i hs; have u1 := ltG i hs; show i ≠ b1 ∧ i ≠ b; omega))
  refine ⟨_, rfl, K243, ?_⟩
  have hzK243 := Keep.size K243
  have hsz244 := Keep.size hk235
  replace hb := hb.keep hk235 (fun hs => by rcases hs with hs | hs; (have u0 := hoF _ hs; have u1 := ltF _ hs; omega); (have u0 := hoG _ hs; have u1 := ltG _ hs; omega))
  replace hx := DLd.keep hx hk235 (fun q hq hs => by rcases hs with hs | hs; exact hpl.fh q hs hq; exact hpl.gh q hs hq)
  replace hy := DVt.keep hy hk235 (fun q hq hs => by rcases hs with hs | hs; exact hpl.fi q hs hq; exact hpl.gi q hs hq)
  replace hK0 := Keep.fresh hK0 hk235 (fun i hi hs => by rcases hs with hs | hs; (rcases hrF i hs with h | h; exact h; (exfalso; omega)); (rcases hrG i hs with h | h; exact h; (exfalso; omega)))
  have own246 : ∀ q, F236 q → q ≠ b ∧ q ≠ b ∧ q ≠ b1 := fun q hq => by rcases hfr238 q hq with h | h; (have h1 := hoF q h; have h2 := ltF q h; omega); omega
  have lt245 := VotT.lt ho237
  have rel247 : ∀ q, F236 q → B q ∨ w.heap.size ≤ q := fun q hq => by rcases hfr238 q hq with h | h; exact hrF q h; exact .inr (by omega)
  have dis248 : ∀ q, F236 q → ¬ H q := fun q h1 h2 => by rcases hfr238 q h1 with h | h; exact hpl.fh q h h2; (have h4 := ltH q h2; omega)
  have dis249 : ∀ q, F236 q → ¬ I q := fun q h1 h2 => by rcases hfr238 q h1 with h | h; exact hpl.fi q h h2; (have h4 := ltI q h2; omega)
  have own251 : ∀ q, F239 q → q ≠ b ∧ q ≠ b ∧ q ≠ b1 := fun q hq => by rcases hfr241 q hq with h | h; (have h1 := hoG q h; have h2 := ltG q h; omega); omega
  have lt250 := Led.lt ho240
  have rel252 : ∀ q, F239 q → B q ∨ w.heap.size ≤ q := fun q hq => by rcases hfr241 q hq with h | h; exact hrG q h; exact .inr (by omega)
  have dis253 : ∀ q, F239 q → ¬ H q := fun q h1 h2 => by rcases hfr241 q h1 with h | h; exact hpl.gh q h h2; (have h4 := ltH q h2; omega)
  have dis254 : ∀ q, F239 q → ¬ I q := fun q h1 h2 => by rcases hfr241 q h1 with h | h; exact hpl.gi q h h2; (have h4 := ltI q h2; omega)
  refine Gn [20, 21, 22, 23, 24, 25, 26, 27, 28, 29, 30, 31, 32, 33, 34, 35] [0, 3, 207, 210] <| Mc 3 (pt y) qhb nb2 rfl <| Gn [24, 25, 26, 27, 28, 29, 30, 31, 32, 33, 34, 35] [0, 3, 207, 211, 214] <| Mc 2 (pt x) qhb nb2 rfl <| Gn [26, 27, 28, 29, 30, 31, 32, 33, 34, 35] [0, 3, 207, 211, 215, 216] <| Mc 1 (nt z.who) qhb1 nb1 rfl <| Gn [28, 29, 30, 31, 32, 33, 34, 35] [0, 207, 211, 215, 217, 218] <| Mc 3 (nt z.tr) qhb1 nb1 rfl <| Gn [32, 33, 34, 35] [207, 211, 215, 217, 219, 222] <| Mc 4 (nt now) qhb nb2 rfl <| Jg (dunlock_spec I H y x s xs cs z.who z.tr now _ hy hx (fun q h1 h2 => hpl.hi q h2 h1) (by omega)) ?_
  rintro _ w255 ⟨rfl, ⟨F257, F260, ho258, ho261, hfr259, hfr262, hdis263⟩, hk256⟩
  refine ⟨_, rfl, ?_⟩
  have hsz264 := Keep.size hk256
  replace hb := hb.keep hk256 (fun hs => by rcases hs with hs | hs; (have u0 := hoI _ hs; have u1 := ltI _ hs; omega); (have u0 := hoH _ hs; have u1 := ltH _ hs; omega))
  replace hK0 := Keep.fresh hK0 hk256 (fun i hi hs => by rcases hs with hs | hs; (rcases hrI i hs with h | h; exact h; (exfalso; omega)); (rcases hrH i hs with h | h; exact h; (exfalso; omega)))
  replace ho237 := ho237.keep hk256 (fun q hq hs => by rcases hs with hs | hs; exact dis249 q hq hs; exact dis248 q hq hs)
  replace ho240 := ho240.keep hk256 (fun q hq hs => by rcases hs with hs | hs; exact dis254 q hq hs; exact dis253 q hq hs)
  have own266 : ∀ q, F257 q → q ≠ b ∧ q ≠ b ∧ q ≠ b1 := fun q hq => by rcases hfr259 q hq with h | h; (have h1 := hoI q h; have h2 := ltI q h; omega); omega
  have lt265 := DVt.lt ho258
  have rel267 : ∀ q, F257 q → B q ∨ w.heap.size ≤ q := fun q hq => by rcases hfr259 q hq with h | h; exact hrI q h; exact .inr (by omega)
  have dis268 : ∀ q, F257 q → ¬ F236 q := fun q h1 h2 => by rcases hfr259 q h1 with h | h; exact dis249 q h2 h; (have h4 := lt245 q h2; omega)
  have dis269 : ∀ q, F257 q → ¬ F239 q := fun q h1 h2 => by rcases hfr259 q h1 with h | h; exact dis254 q h2 h; (have h4 := lt250 q h2; omega)
  have own271 : ∀ q, F260 q → q ≠ b ∧ q ≠ b ∧ q ≠ b1 := fun q hq => by rcases hfr262 q hq with h | h; (have h1 := hoH q h; have h2 := ltH q h; omega); omega
  have lt270 := DLd.lt ho261
  have rel272 : ∀ q, F260 q → B q ∨ w.heap.size ≤ q := fun q hq => by rcases hfr262 q hq with h | h; exact hrH q h; exact .inr (by omega)
  have dis273 : ∀ q, F260 q → ¬ F236 q := fun q h1 h2 => by rcases hfr262 q h1 with h | h; exact dis248 q h2 h; (have h4 := lt245 q h2; omega)
  have dis274 : ∀ q, F260 q → ¬ F239 q := fun q h1 h2 => by rcases hfr262 q h1 with h | h; exact dis253 q h2 h; (have h4 := lt250 q h2; omega)
  refine Gn [] [4] <| GI_end <| X_then <| V_ret <| X_ret_block <| X_ret_then ?_
  obtain ⟨e1, e2, e3, e4⟩ := act_7 (now := now) (s := s) (xs := xs) (cs := cs) hc227
  rw [e1, e2, e3, e4]
  exact Xr (.bool (decide (unlE z.who z.tr = unlE z.who z.tr))) ⟨by simp, (PlX.pack hb ho237 ho240 ho261 ho258 hdis242 (fun q h1 h2 => dis273 q h2 h1) (fun q h1 h2 => dis268 q h2 h1) (fun q h1 h2 => dis274 q h2 h1) (fun q h1 h2 => dis269 q h2 h1) (fun q h1 h2 => hdis263 q h2 h1) (fun q h => (own246 q h).1) (fun q h => (own251 q h).1) (fun q h => (own271 q h).1) (fun q h => (own266 q h).1) hBb rel247 rel252 rel272 rel267), hK0⟩
 refine Vn [0, 3, 226] <| Vi (z.k = 8) (fun hc275 => ?_) (fun hc275 => ?_)
 ·
  refine V_seq <| Vd1 (acts [12]) none_ [0, 1, 2, 3, 4, 5, 6, 7, 8, 9, 10, 11, 12] fun w277 hk276 he278 K281 _ => ?_
  replace hb := hb.k0 hk276
  replace hb1 := hb1.k0 hk276
  replace hv := hv.keep hk276 nk
  replace hl := hl.keep hk276 nk
  replace hx := DLd.keep hx hk276 nk
  replace hy := DVt.keep hy hk276 nk
  replace hK0 := hK0.tn hk276
  have qhb := hb
  have qhb1 := hb1
  refine Gn [4, 5, 6, 7, 8, 9, 10, 11, 12] [3, 228, 231] <| Mr 4 (nt now) qhb <| Gn [6, 7, 8, 9, 10, 11, 12] [228, 232, 233] <| Mr 7 (nt z.n) qhb1 <| Gn [12] [237, 239] <| GI_final 12 (by kernel_rfl) (by kernel_rfl) <| St_ 4 (nt (imin 1073741824 (i64.wrap (now + (bAnd z.n 255))))) hb ?_
  intro w282 hb_285 hk283 hz284
  replace hb_285 : Blk w282 b [pt l, pt v, pt x, pt y, nt (imin 1073741824 (i64.wrap (now + (bAnd z.n 255))))] 35 := hb_285
  have hsz286 := Keep.size hk283
  replace hv := hv.keep hk283 (fun q hq hs => by have hs : q = b := hs; have g0 := hoF q hq; have g1 := ltF q hq; omega)
  replace hl := hl.keep hk283 (fun q hq hs => by have hs : q = b := hs; have g0 := hoG q hq; have g1 := ltG q hq; omega)
  replace hx := DLd.keep hx hk283 (fun q hq hs => by have hs : q = b := hs; have g0 := hoH q hq; have g1 := ltH q hq; omega)
  replace hy := DVt.keep hy hk283 (fun q hq hs => by have hs : q = b := hs; have g0 := hoI q hq; have g1 := ltI q hq; omega)
  replace hK0 := Keep.fresh hK0 hk283 (by intro i hi hs; have hs2 : i = b := hs; first | (exfalso; omega) | (rw [hs2]; exact hBb))
  refine Oer <| Oen [4] <| V_ret <| X_ret_block <| X_ret_then ?_
  obtain ⟨e1, e2, e3, e4⟩ := act_8 (now := now) (s := s) (xs := xs) (cs := cs) hc275
  rw [e1, e2, e3, e4]
  exact Xr (.bool true) ⟨by simp, (PlX.pack hb_285 hv hl hx hy hpl.fg hpl.fh hpl.fi hpl.gh hpl.gi hpl.hi hoF hoG hoH hoI hBb hrF hrG hrH hrI), hK0⟩
 refine V_skip <| X_block <| X_then <| V_seq <| Vd1 (acts [10, 21]) (fun q => q ≠ b1 ∧ q ≠ b) [0, 1, 2, 3, 4, 5, 6, 7, 8, 9, 10, 11, 12, 13, 14, 15, 16, 17, 18, 19, 20, 21, 22, 23] fun w288 hk287 he289 K292 _ => ?_
 replace hb := hb.k0 hk287
 replace hb1 := hb1.k0 hk287
 replace hv := hv.keep hk287 nk
 replace hl := hl.keep hk287 nk
 replace hx := DLd.keep hx hk287 nk
 replace hy := DVt.keep hy hk287 nk
 replace hK0 := hK0.tn hk287
 have qhb := hb
 have qhb1 := hb1
 refine Gn [3, 4, 5, 6, 7, 8, 9, 10, 11, 12, 13, 14, 15, 16, 17, 18, 19, 20, 21, 22, 23] [0, 3, 242] <| Mc 0 (pt l) qhb nb2 rfl <| Gn [5, 6, 7, 8, 9, 10, 11, 12, 13, 14, 15, 16, 17, 18, 19, 20, 21, 22, 23] [0, 3, 243, 244] <| Mc 1 (nt z.who) qhb1 nb1 rfl <| Gn [7, 8, 9, 10, 11, 12, 13, 14, 15, 16, 17, 18, 19, 20, 21, 22, 23] [0, 3, 243, 245, 246] <| Mc 5 (nt z.to) qhb1 nb1 rfl <| Gn [9, 10, 11, 12, 13, 14, 15, 16, 17, 18, 19, 20, 21, 22, 23] [0, 3, 243, 245, 247, 248] <| Mc 7 (nt z.n) qhb1 nb1 rfl <| Hg (transfer_spec G l xs cs z.who z.to z.n _ hl) ?_
 rintro _ w293 ⟨rfl, ⟨F295, ho296, hfr297⟩, hk294⟩
 have K298 := Keep.fresh K292 hk294 (by intro i hi hs; have h1 := hoG i hs; have h2 := ltG i hs; show i ≠ b1 ∧ i ≠ b; omega)
 refine ⟨_, rfl, K298, ?_⟩
 have hzK298 := Keep.size K298
 have hsz299 := Keep.size hk294
 replace hb := hb.keep hk294 (fun hs => by have h1 := hoG _ hs; have h2 := ltG _ hs; omega)
 replace hv := hv.keep hk294 (fun q hq hs => hpl.fg q hq hs)
 replace hx := DLd.keep hx hk294 (fun q hq hs => hpl.gh q hs hq)
 replace hy := DVt.keep hy hk294 (fun q hq hs => hpl.gi q hs hq)
 replace hK0 := frr hK0 hk294 hrG
 have own301 : ∀ q, F295 q → q ≠ b ∧ q ≠ b ∧ q ≠ b1 := fun q hq => by rcases hfr297 q hq with h | h; (have h1 := hoG q h; have h2 := ltG q h; omega); omega
 have lt300 := Led.lt ho296
 have rel302 : ∀ q, F295 q → B q ∨ w.heap.size ≤ q := fun q hq => by rcases hfr297 q hq with h | h; exact hrG q h; exact .inr (by omega)
 have dis303 : ∀ q, F295 q → ¬ F q := fun q h1 h2 => by rcases hfr297 q h1 with h | h; exact hpl.fg q h2 h; (have h4 := ltF q h2; omega)
 have dis304 : ∀ q, F295 q → ¬ H q := fun q h1 h2 => by rcases hfr297 q h1 with h | h; exact hpl.gh q h h2; (have h4 := ltH q h2; omega)
 have dis305 : ∀ q, F295 q → ¬ I q := fun q h1 h2 => by rcases hfr297 q h1 with h | h; exact hpl.gi q h h2; (have h4 := ltI q h2; omega)
 refine Gn [14, 15, 16, 17, 18, 19, 20, 21, 22, 23] [3, 250, 253] <| Mc 2 (pt x) qhb nb2 rfl <| Gn [16, 17, 18, 19, 20, 21, 22, 23] [3, 250, 254, 255] <| Mc 1 (nt z.who) qhb1 nb1 rfl <| Gn [18, 19, 20, 21, 22, 23] [3, 250, 254, 256, 257] <| Mc 5 (nt z.to) qhb1 nb1 rfl <| Gn [20, 21, 22, 23] [250, 254, 256, 258, 259] <| Mc 7 (nt z.n) qhb1 nb1 rfl <| Jg (transfer6_spec H x xs cs z.who z.to z.n _ hx) ?_
 rintro _ w306 ⟨rfl, ⟨F308, ho309, hfr310⟩, hk307⟩
 refine ⟨_, rfl, ?_⟩
 have hsz311 := Keep.size hk307
 replace hb := hb.keep hk307 (fun hs => by have h1 := hoH _ hs; have h2 := ltH _ hs; omega)
 replace hv := hv.keep hk307 (fun q hq hs => hpl.fh q hq hs)
 replace hy := DVt.keep hy hk307 (fun q hq hs => hpl.hi q hs hq)
 replace hK0 := frr hK0 hk307 hrH
 replace ho296 := ho296.keep hk307 (fun q hq hs => dis304 q hq hs)
 have own313 : ∀ q, F308 q → q ≠ b ∧ q ≠ b ∧ q ≠ b1 := fun q hq => by rcases hfr310 q hq with h | h; (have h1 := hoH q h; have h2 := ltH q h; omega); omega
 have lt312 := DLd.lt ho309
 have rel314 : ∀ q, F308 q → B q ∨ w.heap.size ≤ q := fun q hq => by rcases hfr310 q hq with h | h; exact hrH q h; exact .inr (by omega)
 have dis315 : ∀ q, F308 q → ¬ F q := fun q h1 h2 => by rcases hfr310 q h1 with h | h; exact hpl.fh q h2 h; (have h4 := ltF q h2; omega)
 have dis316 : ∀ q, F308 q → ¬ I q := fun q h1 h2 => by rcases hfr310 q h1 with h | h; exact hpl.hi q h h2; (have h4 := ltI q h2; omega)
 have dis317 : ∀ q, F308 q → ¬ F295 q := fun q h1 h2 => by rcases hfr310 q h1 with h | h; exact dis304 q h2 h; (have h4 := lt300 q h2; omega)
 refine Gn [] [4] <| GI_end <| X_then <| V_ret ?_
 obtain ⟨e1, e2, e3, e4⟩ := act_9 (now := now) (s := s) (xs := xs) (cs := cs) hc3 hc35 hc67 hc115 hc147 hc195 hc227 hc275
 rw [e1, e2, e3, e4]
 exact Xr (.bool (decide (transE xs cs z.who z.to z.n = transE xs cs z.who z.to z.n))) ⟨by simp, (PlX.pack hb hv ho296 ho309 hy (fun q h1 h2 => dis303 q h2 h1) (fun q h1 h2 => dis315 q h2 h1) hpl.fi (fun q h1 h2 => dis317 q h2 h1) dis305 dis316 hoF (fun q h => (own301 q h).1) (fun q h => (own313 q h).1) hoI hBb hrF rel302 rel314 hrI), hK0⟩
end Go.Al
namespace Go.Al
open Go Go.RowKit Go.Proofs
theorem GR.getC_memO {a b : Int} {x : Option Addr} : ∀ {cs : List GR.Ci}, GR.getC a b cs = some x → ∃ c ∈ cs, c.a = a ∧ c.b = b
  | [], h => by cases h
  | c :: l, h => by
    rw [GR.getC] at h
    by_cases hc : c.a = a ∧ c.b = b
    · exact ⟨c, List.mem_cons_self .., hc⟩
    · rw [if_neg hc] at h
      obtain ⟨c', h1, h2⟩ := GR.getC_memO h
      exact ⟨c', List.mem_cons_of_mem _ h1, h2⟩
theorem rc_out {F : Nat → Prop} {w : World} {v : Nat} {s : VS} (h : VotT F w v s) {a t : Int} (ha : ¬ (0 ≤ a ∧ a ≤ 9)) : s.rc a t = RecS.zero ∧ vrow s a t = [] := by
  obtain ⟨⟨P, F1, F2, M, hX, _⟩, _⟩ := h
  constructor
  · rcases hX.recs a t with ⟨_, h1⟩ | ⟨q, h1, _⟩
    · exact h1
    · obtain ⟨c, hc, e1, _⟩ := GR.getC_memO h1
      obtain ⟨h2, _⟩ := hX.keys c hc
      exact absurd (by rw [e1] at h2; omega : 0 ≤ a ∧ a ≤ 9) ha
  · unfold vrow
    rw [List.filter_eq_nil_iff.2]
    intro c hc
    obtain ⟨k, hk⟩ := List.getElem?_of_mem hc
    obtain ⟨x, hx, e1, _⟩ := rowL_mem hk
    obtain ⟨h2, _⟩ := hX.inv.votes x hx
    exact absurd (by rw [e1] at h2; omega : 0 ≤ a ∧ a ≤ 9) ha
end Go.Al
namespace Go.Al
open Go Go.RowKit Go.Proofs
theorem dof_all (F : Nat → Prop) (y : Nat) (s : VS) (a t : Int) (w : World) (h : DVt F w y s) (ht : 0 ≤ t ∧ t ≤ 3) (ho : ¬ (0 ≤ a ∧ a ≤ 9) → s.rc a t = RecS.zero ∧ vrow s a t = []) : Calls Tryz.prog 112 #[pt y, nt a, nt t] w fun e w' => ∃ A c, e = .returned (.agg (DR.cells (DR.of A c (vrow s a t) (s.rc a t))).toArray) ∧ SlT w' 7 castc A c (vrow s a t) ∧ Keep none_ w w' :=
  (dof_spec F y s a t w h).mono (by
    rintro e w' (⟨_, A, c, rfl, h1, _, h2⟩ | ⟨h, rfl, h2⟩)
    · exact ⟨A, c, rfl, h1, h2⟩
    · obtain ⟨hz, hv⟩ := ho (fun h9 => h ⟨h9, ht⟩)
      rw [hz, hv]
      exact ⟨none, 0, rfl, SlT.nil _ _ _, h2⟩)
theorem deleg_all (F : Nat → Prop) (v : Nat) (s : VS) (a t : Int) (w : World) (h : VotT F w v s) : Calls Tryz.prog 30 #[pt v, nt a, nt t] w fun e w' => e = .returned (.tuple #[nt (dTo (s.rc a t)), nt (dLv (s.rc a t)), nt (dN (s.rc a t)), .bool (s.rc a t).d.isSome]) ∧ (∃ F', VotT F' w' v s ∧ (∀ q, F' q → F q ∨ w.heap.size ≤ q)) ∧ Keep F w w' := by
  have h9 := delegating_specT F v s a t w h
  unfold delT at h9
  unfold dTo dLv dN
  cases hd : (s.rc a t).d with
  | none => rw [hd] at h9; exact h9
  | some D => rw [hd] at h9; exact h9
theorem record_pl (B : Nat → Prop) (b : Nat) (s : VS) (xs : List Acc) (cs : List Ci) (now : Int) (a t : Int) (w : World) (h : Pl B w b s xs cs now) (ht : 0 ≤ t ∧ t ≤ 3) : Calls Tryz.prog 83 #[pt b, nt a, nt t] w fun e w' => e = .returned (.bool true) ∧ (∃ B', Pl B' w' b s xs cs now ∧ (∀ q, B' q → B q ∨ w.heap.size ≤ q)) ∧ Keep B w w' := by
 obtain ⟨hBlt, hBb, F, G, H, I, v, l, x, y, hpl⟩ := h
 have hb := hpl.blk
 have hblt := hb.lt
 have hv := hpl.hv
 have hoF : ∀ q, F q → q ≠ b := fun q hq => (hpl.inF q hq).2
 have ltF := VotT.lt hv
 have hrF : ∀ q, F q → B q ∨ w.heap.size ≤ q := fun q hq => .inl (hpl.inF q hq).1
 have hvlt := ltF _ (VotT.at_ hv)
 have hvb := hoF _ (VotT.at_ hv)
 have hl := hpl.hl
 have hoG : ∀ q, G q → q ≠ b := fun q hq => (hpl.inG q hq).2
 have ltG := Led.lt hl
 have hrG : ∀ q, G q → B q ∨ w.heap.size ≤ q := fun q hq => .inl (hpl.inG q hq).1
 have hllt := ltG _ (Led.at_ hl)
 have hlb := hoG _ (Led.at_ hl)
 have hx := hpl.hx
 have hoH : ∀ q, H q → q ≠ b := fun q hq => (hpl.inH q hq).2
 have ltH := DLd.lt hx
 have hrH : ∀ q, H q → B q ∨ w.heap.size ≤ q := fun q hq => .inl (hpl.inH q hq).1
 have hxlt := ltH _ (DLd.at_ hx)
 have hxb := hoH _ (DLd.at_ hx)
 have hy := hpl.hy
 have hoI : ∀ q, I q → q ≠ b := fun q hq => (hpl.inI q hq).2
 have ltI := DVt.lt hy
 have hrI : ∀ q, I q → B q ∨ w.heap.size ≤ q := fun q hq => .inl (hpl.inI q hq).1
 have hylt := ltI _ (DVt.at_ hy)
 have hyb := hoI _ (DVt.at_ hy)
 have hv0 := hpl.hv
 have hK0 := Keep.refl B w
 refine eV ?_
 refine Vr <| On 1 [0, 1, 2] <| Oer <| On 3 [0, 1, 2, 19] <| Lr 3 (pt y) hb <| On 6 [0, 1, 2, 20, 21, 22] <| Kg (dof_all I y s a t _ hy ht (fun ha => rc_out hv0 ha)) ?_
 rintro _ w1 ⟨A, c, rfl, hAr, hk2⟩
 refine ⟨_, rfl, ?_⟩
 have hsz3 := Keep.size hk2
 replace hv := hv.keep hk2 nk
 replace hl := hl.keep hk2 nk
 replace hx := DLd.keep hx hk2 nk
 replace hy := DVt.keep hy hk2 nk
 replace hK0 := hK0.tn hk2
 have ltAr := SlT.lt hAr
 refine Alc_ 167 (.agg #[.slice none 0 0, .bool false, nt 0, nt 0, nt 0, nt 0, nt 0, nt 0, nt 0]) [.slice none 0 0, .bool false, nt 0, nt 0, nt 0, nt 0, nt 0, nt 0, nt 0] ?_
 intro b4 w4 e4 hb4 k4 z4
 have hsz5 := Keep.size k4
 replace hb := hb.k0 (hk2.tr k4)
 replace hAr := hAr.keep0 k4
 replace hv := hv.keep k4 nk
 replace hl := hl.keep k4 nk
 replace hx := DLd.keep hx k4 nk
 replace hy := DVt.keep hy k4 nk
 replace hK0 := hK0.tn k4
 have hb4lt := hb4.lt
 refine Sg 0 (DR.cells (DR.of A c (vrow s a t) (s.rc a t))) hb4 (DR.len _) (DR.one _) ?_
 intro w6 hb4_9 hk7 hz8
 replace hb4_9 : Blk w6 b4 (DR.cells (DR.of A c (vrow s a t) (s.rc a t))) 167 := (by rwa [over_whole (by rw [DR.len]; rfl)] at hb4_9)
 have hsz10 := Keep.size hk7
 replace hb := hb.k1 hk7
 replace hAr := hAr.keep hk7 (fun q hq hs => by have hs : q = b4 := hs; have g1 := ltAr q hq; omega)
 replace hv := hv.keep hk7 (fun q hq hs => by have hs : q = b4 := hs; have g0 := hoF q hq; have g1 := ltF q hq; omega)
 replace hl := hl.keep hk7 (fun q hq hs => by have hs : q = b4 := hs; have g0 := hoG q hq; have g1 := ltG q hq; omega)
 replace hx := DLd.keep hx hk7 (fun q hq hs => by have hs : q = b4 := hs; have g0 := hoH q hq; have g1 := ltH q hq; omega)
 replace hy := DVt.keep hy hk7 (fun q hq hs => by have hs : q = b4 := hs; have g0 := hoI q hq; have g1 := ltI q hq; omega)
 replace hK0 := Keep.fresh hK0 hk7 (by intro i hi hs; have hs2 : i = b4 := hs; first | (exfalso; omega) | (rw [hs2]; exact hBb))
 refine Oer <| On 3 [0, 1, 2, 7, 27] <| Lr 1 (pt v) hb <| On 6 [0, 1, 2, 7, 28, 29, 30] <| Kg (casts_spec F v s a t _ hv) ?_
 rintro _ w11 ⟨Ak, capk, rfl, hAk, hk12, owk⟩
 refine ⟨_, rfl, ?_⟩
 have hsz13 := Keep.size hk12
 replace hb4_9 := hb4_9.k0 hk12
 replace hv := hv.keep hk12 nk
 replace hl := hl.keep hk12 nk
 replace hx := DLd.keep hx hk12 nk
 replace hy := DVt.keep hy hk12 nk
 replace hK0 := hK0.tn hk12
 have hvl := rowL12 hv0 a t
 refine On 12 [0, 1, 2, 7, 8, 9] <| Oe <| V_seq <| Vr <| On 6 [0, 1, 2, 7, 8, 36, 38, 39] <| Lr 0 (.slice A ((vrow s a t).length) c) hb4_9 <| Oen [0, 1, 2, 7, 8, 43] <| Vq (u := .bool (!(decide ((((vrow s a t).length : Nat) : Int) = (((vrow s a t).length : Nat) : Int))))) (v := .bool false) 43 (by rw [decide_eq_true (rfl : (((vrow s a t).length : Nat) : Int) = (((vrow s a t).length : Nat) : Int))]; rfl) <| Vf <| Vsk <| V_seq <| Vn [0, 1, 2, 7, 8, 10] <| V_block <| Vp [(0, pt b), (1, nt a), (2, nt t), (7, pt b4), (8, .slice Ak ((vrow s a t).length) capk), (10, nt 0)] <| V_loop (fun k wI e => ∃ i : Nat, (k + i = (vrow s a t).length) ∧ Keep none_ w11 wI ∧ e = [(0, pt b), (1, nt a), (2, nt t), (7, pt b4), (8, .slice Ak ((vrow s a t).length) capk), (10, nt (i : Int))]) ((vrow s a t).length) ⟨0, by omega, Keep.refl _ _, rfl⟩ ?_
 rintro k16 w15 _ ⟨i, hki, hk17, rfl⟩
 have hsz18 := Keep.size hk17
 replace hb := hb.k0 (hk12.tr hk17)
 replace hb4_9 := hb4_9.k0 hk17
 replace hAr := hAr.keep0 (hk12.tr hk17)
 replace hAk := hAk.keep0 hk17
 replace hv := hv.keep hk17 nk
 replace hl := hl.keep hk17 nk
 replace hx := DLd.keep hx hk17 nk
 replace hy := DVt.keep hy hk17 nk
 replace hK0 := hK0.tn hk17
 have hzhk17 := Keep.size hk17
 refine V_seq <| Vn [0, 1, 2, 7, 8, 10, 47] <| Vi ((i : Int) < (((vrow s a t).length : Nat) : Int)) (fun hc19 => ?_) (fun hc19 => ?_)
 ·
  refine Vsk <| V_seq <| V_block <| V_seq <| Vd1 (acts []) none_ [0, 1, 2, 3, 4, 5, 6, 7, 8, 9] fun w21 hk20 he22 K25 _ => ?_
  replace hb4_9 := hb4_9.k0 hk20
  replace hAr := hAr.keep0 hk20
  replace hAk := hAk.keep0 hk20
  replace hk17 := hk17.tn hk20
  have qhb4_9 := hb4_9
  have qhAr := hAr
  have qhAk := hAk
  refine Gn [2, 3, 4, 5, 6, 7, 8, 9] [0, 1, 2, 7, 8, 10, 50, 51] ?_
  obtain ⟨b26, o26, L26, T26, rfl, hat26⟩ := SlT.opn hAk
  have hb26lt := hat26.blk.lt
  obtain ⟨qL26, qT26, qhat26⟩ := SlT.openA qhAk (by first | omega | (simp; done) | (simp; omega))
  refine Gi (b := b26) (o := o26) (len := (vrow s a t).length) (cap := capk) (j := i) 46 7 56 .i64 ?_
  obtain ⟨x27, hx28⟩ := exAt (xs := (vrow s a t)) (i := i)
  refine Ma (o26 + i * 7) (castc x27) 7 qhat26.blk id (At.elem' qhat26 (es_at hx28)) (At.len qhat26 (es_at hx28)) <| Gn [5, 6, 7, 8, 9] [0, 1, 2, 7, 8, 10, 53, 54] <| Mr 0 (.slice A ((vrow s a t).length) c) qhb4_9 <| Gn [7, 8, 9] [0, 1, 2, 7, 8, 10, 53, 55, 56] ?_
  obtain ⟨b29, o29, L29, T29, rfl, hat29⟩ := SlT.opn hAr
  have hb29lt := hat29.blk.lt
  have hob30 := ltAr b29 ⟨_, rfl, rfl⟩
  obtain ⟨qL29, qT29, qhat29⟩ := SlT.openA qhAr (by first | omega | (simp; done) | (simp; omega))
  refine Gi (b := b29) (o := o29) (len := (vrow s a t).length) (cap := c) (j := i) 46 7 56 .i64 <| Ma (o29 + i * 7) (castc x27) 7 qhat29.blk id (At.elem' qhat29 (es_at hx28)) (At.len qhat29 (es_at hx28)) <| GI_pure (some 59) ((Op.binOp BinOp.neq 46 (Operand.tmp 53) (Operand.tmp 58) 46)) (by kernel_rfl) (by kernel_rfl) (pure_neq_same (xs := castc x27) (by kernel_rfl) (by kernel_rfl) (by kernel_rfl) (by kernel_rfl)) <| GI_end <| X_then <| Vf <| V_skip <| X_block <| X_then <| V_region ?_
  have hw31 : i64.wrap ((i : Int) + 1) = ((i + 1 : Nat) : Int) := wrp
  refine On 2 [0, 1, 2, 7, 8, 49] <| Oq (u := nt (i64.wrap ((i : Int) + 1))) (v := nt ((i + 1 : Nat) : Int)) 49 (by rw [hw31]) <| Os 3 [(0, pt b), (1, nt a), (2, nt t), (7, pt b4), (8, sl_ b26 o26 ((vrow s a t).length) capk), (10, nt ((i + 1 : Nat) : Int))] <| OI_end rfl ?_
  exact V_again (k16 - 1) (by omega) [(0, pt b), (1, nt a), (2, nt t), (7, pt b4), (8, sl_ b26 o26 ((vrow s a t).length) capk), (10, nt ((i + 1 : Nat) : Int))] rfl ⟨i + 1, by omega, hk17, rfl⟩
 refine V_exit <| X_exit_then <| X_exit_then <| X_exit_here <| X_then <| Vr <| On 3 [0, 1, 2, 7, 63] <| Lr 1 (pt v) hb <| On 6 [0, 1, 2, 7, 64, 65, 66] <| Kg (deleg_all F v s a t _ hv) ?_
 rintro _ w34 ⟨rfl, ⟨F36, ho37, hfr38⟩, hk35⟩
 refine ⟨_, rfl, ?_⟩
 have hsz39 := Keep.size hk35
 replace hb := hb.keep hk35 (fun hs => by have h1 := hoF _ hs; have h2 := ltF _ hs; omega)
 replace hb4_9 := hb4_9.keep hk35 (fun hs => by have h1 := hoF _ hs; have h2 := ltF _ hs; omega)
 replace hl := hl.keep hk35 (fun q hq hs => hpl.fg q hs hq)
 replace hx := DLd.keep hx hk35 (fun q hq hs => hpl.fh q hs hq)
 replace hy := DVt.keep hy hk35 (fun q hq hs => hpl.fi q hs hq)
 replace hK0 := frr hK0 hk35 hrF
 have own41 : ∀ q, F36 q → q ≠ b ∧ q ≠ b ∧ q ≠ b4 := fun q hq => by rcases hfr38 q hq with h | h; (have h1 := hoF q h; have h2 := ltF q h; omega); omega
 have lt40 := VotT.lt ho37
 have rel42 : ∀ q, F36 q → B q ∨ w.heap.size ≤ q := fun q hq => by rcases hfr38 q hq with h | h; exact hrF q h; exact .inr (by omega)
 have dis43 : ∀ q, F36 q → ¬ G q := fun q h1 h2 => by rcases hfr38 q h1 with h | h; exact hpl.fg q h h2; (have h4 := ltG q h2; omega)
 have dis44 : ∀ q, F36 q → ¬ H q := fun q h1 h2 => by rcases hfr38 q h1 with h | h; exact hpl.fh q h h2; (have h4 := ltH q h2; omega)
 have dis45 : ∀ q, F36 q → ¬ I q := fun q h1 h2 => by rcases hfr38 q h1 with h | h; exact hpl.fi q h h2; (have h4 := ltI q h2; omega)
 refine On 16 [0, 1, 2, 7, 11, 12, 13, 14] <| Oer <| On 3 [0, 1, 2, 7, 11, 12, 13, 14, 75] <| Lr 1 (pt v) hb <| On 6 [0, 1, 2, 7, 11, 12, 13, 14, 76, 77, 78] <| Kg (prior_specT F36 v s a t _ ho37) ?_
 rintro _ w48 ⟨rfl, ⟨F50, ho51, hfr52⟩, hk49⟩
 refine ⟨_, rfl, ?_⟩
 have hsz53 := Keep.size hk49
 replace hb := hb.keep hk49 (fun hs => by have h1 := own41 _ hs; have h2 := lt40 _ hs; omega)
 replace hb4_9 := hb4_9.keep hk49 (fun hs => by have h1 := own41 _ hs; have h2 := lt40 _ hs; omega)
 replace hl := hl.keep hk49 (fun q hq hs => dis43 q hs hq)
 replace hx := DLd.keep hx hk49 (fun q hq hs => dis44 q hs hq)
 replace hy := DVt.keep hy hk49 (fun q hq hs => dis45 q hs hq)
 replace hK0 := frr hK0 hk49 rel42
 have own55 : ∀ q, F50 q → q ≠ b ∧ q ≠ b ∧ q ≠ b4 := fun q hq => by rcases hfr52 q hq with h | h; (have h1 := own41 q h; have h2 := lt40 q h; omega); omega
 have lt54 := VotT.lt ho51
 have rel56 : ∀ q, F50 q → B q ∨ w.heap.size ≤ q := fun q hq => by rcases hfr52 q hq with h | h; exact rel42 q h; exact .inr (by omega)
 have dis57 : ∀ q, F50 q → ¬ G q := fun q h1 h2 => by rcases hfr52 q h1 with h | h; exact dis43 q h h2; (have h4 := ltG q h2; omega)
 have dis58 : ∀ q, F50 q → ¬ H q := fun q h1 h2 => by rcases hfr52 q h1 with h | h; exact dis44 q h h2; (have h4 := ltH q h2; omega)
 have dis59 : ∀ q, F50 q → ¬ I q := fun q h1 h2 => by rcases hfr52 q h1 with h | h; exact dis45 q h h2; (have h4 := ltI q h2; omega)
 refine Oen [0, 1, 2, 7, 11, 12, 13, 14, 15, 16] <| V_seq <| Vd1 (acts [29]) (fun q => q ≠ b4 ∧ q ≠ b) [0, 1, 2, 3, 4, 5, 6, 7, 8, 9, 10, 11, 12, 13, 14, 15, 16, 17, 18, 19, 20, 21, 22, 23, 24, 25, 26, 27, 28, 29, 30, 31, 32, 33, 34, 35, 36, 37, 38, 39, 40, 41, 42, 43, 44, 45, 46] fun w61 hk60 he62 K65 _ => ?_
 replace hb := hb.k0 hk60
 replace hb4_9 := hb4_9.k0 hk60
 replace hl := hl.keep hk60 nk
 replace hx := DLd.keep hx hk60 nk
 replace hy := DVt.keep hy hk60 nk
 replace hK0 := hK0.tn hk60
 replace ho51 := ho51.keep hk60 nk
 have qhb := hb
 have qhb4_9 := hb4_9
 refine Gn [2, 3, 4, 5, 6, 7, 8, 9, 10, 11, 12, 13, 14, 15, 16, 17, 18, 19, 20, 21, 22, 23, 24, 25, 26, 27, 28, 29, 30, 31, 32, 33, 34, 35, 36, 37, 38, 39, 40, 41, 42, 43, 44, 45, 46] [0, 1, 2, 7, 12, 13, 14, 15, 16, 82, 83] <| Mc 2 (nt (dTo (s.rc a t))) qhb4_9 nb1 rfl <| Gn [5, 6, 7, 8, 9, 10, 11, 12, 13, 14, 15, 16, 17, 18, 19, 20, 21, 22, 23, 24, 25, 26, 27, 28, 29, 30, 31, 32, 33, 34, 35, 36, 37, 38, 39, 40, 41, 42, 43, 44, 45, 46] [0, 1, 2, 7, 12, 13, 14, 15, 16, 86] <| Gq_ (u := .bool (decide (dTo (s.rc a t) = dTo (s.rc a t)))) (v := .bool true) 86 (by rw [decide_eq_true (rfl : dTo (s.rc a t) = dTo (s.rc a t))]) <| Gn [7, 8, 9, 10, 11, 12, 13, 14, 15, 16, 17, 18, 19, 20, 21, 22, 23, 24, 25, 26, 27, 28, 29, 30, 31, 32, 33, 34, 35, 36, 37, 38, 39, 40, 41, 42, 43, 44, 45, 46] [0, 1, 2, 7, 13, 14, 15, 16, 86, 87, 88] <| Mc 3 (nt (dLv (s.rc a t))) qhb4_9 nb1 rfl <| Gn [11, 12, 13, 14, 15, 16, 17, 18, 19, 20, 21, 22, 23, 24, 25, 26, 27, 28, 29, 30, 31, 32, 33, 34, 35, 36, 37, 38, 39, 40, 41, 42, 43, 44, 45, 46] [0, 1, 2, 7, 13, 14, 15, 16, 92] <| Gq_ (u := .bool (decide (dLv (s.rc a t) = dLv (s.rc a t)))) (v := .bool true) 92 (by rw [decide_eq_true (rfl : dLv (s.rc a t) = dLv (s.rc a t))]) <| Gn [13, 14, 15, 16, 17, 18, 19, 20, 21, 22, 23, 24, 25, 26, 27, 28, 29, 30, 31, 32, 33, 34, 35, 36, 37, 38, 39, 40, 41, 42, 43, 44, 45, 46] [0, 1, 2, 7, 14, 15, 16, 92, 93, 94] <| Mc 4 (nt (dN (s.rc a t))) qhb4_9 nb1 rfl <| Gn [17, 18, 19, 20, 21, 22, 23, 24, 25, 26, 27, 28, 29, 30, 31, 32, 33, 34, 35, 36, 37, 38, 39, 40, 41, 42, 43, 44, 45, 46] [0, 1, 2, 7, 14, 15, 16, 98] <| Gq_ (u := .bool (decide (dN (s.rc a t) = dN (s.rc a t)))) (v := .bool true) 98 (by rw [decide_eq_true (rfl : dN (s.rc a t) = dN (s.rc a t))]) <| Gn [19, 20, 21, 22, 23, 24, 25, 26, 27, 28, 29, 30, 31, 32, 33, 34, 35, 36, 37, 38, 39, 40, 41, 42, 43, 44, 45, 46] [0, 1, 2, 7, 15, 16, 98, 99, 100] <| Mc 1 (.bool ((s.rc a t).d.isSome)) qhb4_9 nb1 rfl <| Gn [23, 24, 25, 26, 27, 28, 29, 30, 31, 32, 33, 34, 35, 36, 37, 38, 39, 40, 41, 42, 43, 44, 45, 46] [0, 1, 2, 7, 15, 16, 104] <| Gq_ (u := .bool (((s.rc a t).d.isSome) == ((s.rc a t).d.isSome))) (v := .bool true) 104 (by rw [beq_self_eq_true]) <| Gn [26, 27, 28, 29, 30, 31, 32, 33, 34, 35, 36, 37, 38, 39, 40, 41, 42, 43, 44, 45, 46] [1, 2, 7, 15, 16, 104, 107] <| Mc 1 (pt v) qhb nb2 rfl <| Gn [29, 30, 31, 32, 33, 34, 35, 36, 37, 38, 39, 40, 41, 42, 43, 44, 45, 46] [7, 15, 16, 104, 108, 109, 110] <| Hg (got_specT F50 v s a t _ ho51) ?_
 rintro _ w72 ⟨rfl, ⟨F74, ho75, hfr76⟩, hk73⟩
 have K77 := Keep.fresh K65 hk73 (by intro i hi hs; have h1 := own55 i hs; have h2 := lt54 i hs; show i ≠ b4 ∧ i ≠ b; omega)
 refine ⟨_, rfl, K77, ?_⟩
 have hzK77 := Keep.size K77
 have hsz78 := Keep.size hk73
 replace hb := hb.keep hk73 (fun hs => by have h1 := own55 _ hs; have h2 := lt54 _ hs; omega)
 replace hl := hl.keep hk73 (fun q hq hs => dis57 q hs hq)
 replace hx := DLd.keep hx hk73 (fun q hq hs => dis58 q hs hq)
 replace hy := DVt.keep hy hk73 (fun q hq hs => dis59 q hs hq)
 replace hK0 := frr hK0 hk73 rel56
 have own80 : ∀ q, F74 q → q ≠ b ∧ q ≠ b ∧ q ≠ b4 := fun q hq => by rcases hfr76 q hq with h | h; (have h1 := own55 q h; have h2 := lt54 q h; omega); omega
 have lt79 := VotT.lt ho75
 have rel81 : ∀ q, F74 q → B q ∨ w.heap.size ≤ q := fun q hq => by rcases hfr76 q hq with h | h; exact rel56 q h; exact .inr (by omega)
 have dis82 : ∀ q, F74 q → ¬ G q := fun q h1 h2 => by rcases hfr76 q h1 with h | h; exact dis57 q h h2; (have h4 := ltG q h2; omega)
 have dis83 : ∀ q, F74 q → ¬ H q := fun q h1 h2 => by rcases hfr76 q h1 with h | h; exact dis58 q h h2; (have h4 := ltH q h2; omega)
 have dis84 : ∀ q, F74 q → ¬ I q := fun q h1 h2 => by rcases hfr76 q h1 with h | h; exact dis59 q h h2; (have h4 := ltI q h2; omega)
 exact Gn [31, 32, 33, 34, 35, 36, 37, 38, 39, 40, 41, 42, 43, 44, 45, 46] [7, 15, 16, 104, 111, 112] <| Ma 5 [nt ((s.rc a t).got.v), nt ((s.rc a t).got.c)] 2 qhb4_9 nb1 rfl rfl <| GI_pure (some 114) ((Op.binOp BinOp.eql 54 (Operand.tmp 111) (Operand.tmp 113) 54)) (by kernel_rfl) (by kernel_rfl) (pure_eql_same (xs := [nt ((s.rc a t).got.v), nt ((s.rc a t).got.c)]) (by kernel_rfl) (by kernel_rfl) (by kernel_rfl) (by kernel_rfl)) <| Gn [37, 38, 39, 40, 41, 42, 43, 44, 45, 46] [7, 16, 116, 117, 118] <| Mc 7 (nt ((s.rc a t).till)) qhb4_9 nb1 rfl <| Gn [41, 42, 43, 44, 45, 46] [7, 16, 122] <| Gq_ (u := .bool (decide ((s.rc a t).till = (s.rc a t).till))) (v := .bool true) 122 (by rw [decide_eq_true (rfl : (s.rc a t).till = (s.rc a t).till)]) <| Gn [43, 44, 45, 46] [122, 123, 124] <| Mc 8 (nt ((s.rc a t).n)) qhb4_9 nb1 rfl <| Gn [] [6] <| GI_end <| X_then <| Rr (.bool (decide ((s.rc a t).n = (s.rc a t).n))) ⟨by simp, (PlX.pack hb ho75 hl hx hy dis82 dis83 dis84 hpl.gh hpl.gi hpl.hi (fun q h => (own80 q h).1) hoG hoH hoI hBb rel81 hrG hrH hrI), hK0⟩
end Go.Al
namespace Go.Al
open Go Go.RowKit Go.Proofs
theorem alike_pl (B : Nat → Prop) (b : Nat) (s : VS) (xs : List Acc) (cs : List Ci) (now : Int) (w : World) (h : Pl B w b s xs cs now) : Calls Tryz.prog 39 #[pt b] w fun e w' => e = .returned (.bool true) ∧ (∃ B', Pl B' w' b s xs cs now ∧ (∀ q, B' q → B q ∨ w.heap.size ≤ q)) ∧ Keep B w w' := by
 have ltB := Pl.lt h
 have hBb := Pl.at_ h
 have hblt := ltB _ hBb
 have hoB : ∀ q, B q → 0 ≤ q := fun q _ => Nat.zero_le q
 have hrB : ∀ q, B q → B q ∨ w.heap.size ≤ q := fun q hq => .inl hq
 have hK0 := Keep.refl B w
 refine eV ?_
 refine Vr <| On 1 [0] <| Oe <| V_seq <| Vn [0, 3] <| V_block <| Vp [(0, pt b), (3, nt (-1))] <| V_loop (fun k wI e => ∃ i : Nat, ∃ a : Int, ∃ F1 : Nat → Prop, (k + i = 12) ∧ (a = (i : Int) - 1) ∧ (Pl F1 wI b s xs cs now) ∧ (∀ q, F1 q → 0 ≤ q) ∧ (∀ q, F1 q → B q ∨ w.heap.size ≤ q) ∧ Keep B w wI ∧ e = [(0, pt b), (3, nt a)]) 12 ⟨0, -1, B, by omega, by omega, h, (fun q hq => by have h1 := hoB q hq; have h2 := ltB q hq; omega), fun q h => .inl h, Keep.refl _ _, rfl⟩ ?_
 rintro k6 w5 _ ⟨i, a, F1, hki, ha, ho2, own3, rel4, hk7, rfl⟩
 have hsz8 := Keep.size hk7
 replace hK0 := frr hK0 hk7 hrB
 have hzhk7 := Keep.size hk7
 have lt9 := Pl.lt ho2
 have rel10 : ∀ q, F1 q → B q ∨ w.heap.size ≤ q := fun q hq => by rcases rel4 q hq with h | h; exact hrB q h; exact .inr (by omega)
 have hblt : b < w5.heap.size := Pl.lt ho2 _ (Pl.at_ ho2)
 have hcp11 := ho2
 obtain ⟨_, _, F11, G11, H11, I11, v11, l11, x11, y11, hp11⟩ := hcp11
 have hb11 := hp11.blk
 have hv11 := hp11.hv
 have hl11 := hp11.hl
 have hx11 := hp11.hx
 have hy11 := hp11.hy
 refine V_seq <| Vn [0, 3, 7] <| Vi (a ≤ 10) (fun hc12 => ?_) (fun hc12 => ?_)
 ·
  refine Vsk <| V_seq <| V_block <| V_seq <| V_seq <| Vd1 (acts [5, 11, 19, 25]) none_ [0, 1, 2, 3, 4, 5, 6, 7, 8, 9, 10, 11, 12, 13, 14, 15, 16, 17, 18, 19, 20, 21, 22, 23, 24, 25, 26, 27] fun w14 hk13 he15 K18 _ => ?_
  replace hb11 := hb11.k0 hk13
  replace hk7 := hk7.tn hk13
  replace ho2 := Pl.keep ho2 hk13 nk
  replace hl11 := hl11.keep hk13 nk
  replace hx11 := DLd.keep hx11 hk13 nk
  have qhb11 := hb11
  refine Gn [3, 4, 5, 6, 7, 8, 9, 10, 11, 12, 13, 14, 15, 16, 17, 18, 19, 20, 21, 22, 23, 24, 25, 26, 27] [0, 3, 12] <| Mr 0 (pt l11) qhb11 <| Gn [5, 6, 7, 8, 9, 10, 11, 12, 13, 14, 15, 16, 17, 18, 19, 20, 21, 22, 23, 24, 25, 26, 27] [0, 3, 13, 14] <| Hg (free_spec G11 l11 xs cs a _ hl11) ?_
  rintro _ w19 ⟨rfl, hk20⟩
  have K21 := K18.tr (Keep.ofNone hk20)
  refine ⟨_, rfl, K21, ?_⟩
  have hzK21 := Keep.size K21
  have hsz22 := Keep.size hk20
  replace hk7 := hk7.tn hk20
  replace ho2 := Pl.keep ho2 hk20 nk
  replace hl11 := hl11.keep hk20 nk
  replace hx11 := DLd.keep hx11 hk20 nk
  refine Gn [9, 10, 11, 12, 13, 14, 15, 16, 17, 18, 19, 20, 21, 22, 23, 24, 25, 26, 27] [0, 3, 15, 18] <| Mr 2 (pt x11) qhb11 <| Gn [11, 12, 13, 14, 15, 16, 17, 18, 19, 20, 21, 22, 23, 24, 25, 26, 27] [0, 3, 15, 19, 20] <| Hg (free6_spec H11 x11 xs cs a _ hx11) ?_
  rintro _ w23 ⟨rfl, hk24⟩
  have K25 := K21.tr (Keep.ofNone hk24)
  refine ⟨_, rfl, K25, ?_⟩
  have hzK25 := Keep.size K25
  have hsz26 := Keep.size hk24
  replace hk7 := hk7.tn hk24
  replace ho2 := Pl.keep ho2 hk24 nk
  replace hl11 := hl11.keep hk24 nk
  replace hx11 := DLd.keep hx11 hk24 nk
  refine Gn [14, 15, 16, 17, 18, 19, 20, 21, 22, 23, 24, 25, 26, 27] [0, 3, 23] <| Gq_ (u := .bool (!(decide ((acct xs a).free = (acct xs a).free)))) (v := .bool false) 23 (by rw [decide_eq_true (rfl : (acct xs a).free = (acct xs a).free)]; rfl) <| Gn [17, 18, 19, 20, 21, 22, 23, 24, 25, 26, 27] [0, 3, 23, 24, 25, 26] <| Mr 0 (pt l11) qhb11 <| Gn [19, 20, 21, 22, 23, 24, 25, 26, 27] [0, 3, 23, 24, 25, 26, 27, 28] <| Hg (locked_spec G11 l11 xs cs a _ hl11) ?_
  rintro _ w28 ⟨rfl, hk29⟩
  have K30 := K25.tr (Keep.ofNone hk29)
  refine ⟨_, rfl, K30, ?_⟩
  have hzK30 := Keep.size K30
  have hsz31 := Keep.size hk29
  replace hk7 := hk7.tn hk29
  replace ho2 := Pl.keep ho2 hk29 nk
  replace hx11 := DLd.keep hx11 hk29 nk
  refine Gn [23, 24, 25, 26, 27] [0, 3, 23, 24, 25, 26, 27, 28, 29, 30, 31, 32] <| Mr 2 (pt x11) qhb11 <| Gn [25, 26, 27] [0, 3, 23, 24, 25, 26, 27, 28, 29, 30, 31, 32, 33, 34] <| Jk (locked6_spec H11 x11 xs cs a _ hx11) fun w32 hk33 _ => ?_
  replace hk7 := hk7.tn hk33
  replace ho2 := Pl.keep ho2 hk33 nk
  refine Gs [] [(0, pt b), (3, nt a), (24, pt b), (25, pt b), (26, pt b), (27, pt l11), (28, nt a), (29, nt (lockedL cs a)), (30, pt b), (31, pt b), (32, po_ b 2), (33, pt x11), (34, nt a), (35, nt (lockedL cs a)), (36, .bool (!(decide (lockedL cs a = lockedL cs a)))), (37, .bool (!(decide (lockedL cs a = lockedL cs a))))] <| GI_end <| X_then <| V_eq [(0, pt b), (3, nt a), (24, pt b), (25, pt b), (26, pt b), (27, pt l11), (28, nt a), (29, nt (lockedL cs a)), (30, pt b), (31, pt b), (32, po_ b 2), (33, pt x11), (34, nt a), (35, nt (lockedL cs a)), (36, .bool (!(decide (lockedL cs a = lockedL cs a)))), (37, .bool false)] (by rw [decide_eq_true (rfl : lockedL cs a = lockedL cs a)]; rfl) <| Vf <| Vsk <| Vn [0, 3, 4, 24, 25, 26, 27, 28, 29, 30, 31, 32, 33, 34, 35, 36] <| V_block <| Vp [(0, pt b), (3, nt a), (4, nt 0), (24, pt b), (25, pt b), (26, pt b), (27, pt l11), (28, nt a), (29, nt (lockedL cs a)), (30, pt b), (31, pt b), (32, po_ b 2), (33, pt x11), (34, nt a), (35, nt (lockedL cs a)), (36, .bool (!(decide (lockedL cs a = lockedL cs a))))] <| V_loop (fun k wI e => ∃ j : Nat, ∃ F36 : Nat → Prop, (k + j = 4) ∧ (Pl F36 wI b s xs cs now) ∧ (∀ q, F36 q → 0 ≤ q) ∧ (∀ q, F36 q → F1 q ∨ w32.heap.size ≤ q) ∧ Keep F1 w32 wI ∧ e = [(0, pt b), (3, nt a), (4, nt (j : Int)), (24, pt b), (25, pt b), (26, pt b), (27, pt l11), (28, nt a), (29, nt (lockedL cs a)), (30, pt b), (31, pt b), (32, po_ b 2), (33, pt x11), (34, nt a), (35, nt (lockedL cs a)), (36, .bool (!(decide (lockedL cs a = lockedL cs a))))]) 4 ⟨0, F1, by omega, ho2, (fun q hq => by have h1 := own3 q hq; have h2 := lt9 q hq; omega), fun q h => .inl h, Keep.refl _ _, rfl⟩ ?_
  rintro k41 w40 _ ⟨j, F36, hkj, ho37, own38, rel39, hk42, rfl⟩
  have hsz43 := Keep.size hk42
  replace hk7 := frr hk7 hk42 rel10
  have hzhk42 := Keep.size hk42
  have lt44 := Pl.lt ho37
  have rel45 : ∀ q, F36 q → B q ∨ w.heap.size ≤ q := fun q hq => by rcases rel39 q hq with h | h; exact rel10 q h; exact .inr (by omega)
  have hblt : b < w40.heap.size := Pl.lt ho37 _ (Pl.at_ ho37)
  refine V_seq <| Vn [0, 3, 4, 24, 25, 26, 27, 28, 29, 30, 31, 32, 33, 34, 35, 36, 39] <| Vi ((j : Int) < 4) (fun hc46 => ?_) (fun hc46 => ?_)
  ·
   refine Vsk <| V_seq <| V_block <| Vr <| On 3 [0, 3, 4, 24, 25, 26, 27, 28, 29, 30, 31, 32, 33, 34, 35, 36, 42, 43, 44] <| Kg (record_pl F36 b s xs cs now a (j : Int) _ ho37 (by omega)) ?_
   rintro _ w47 ⟨rfl, ⟨F49, ho50, hfr51⟩, hk48⟩
   refine ⟨_, rfl, ?_⟩
   have hsz52 := Keep.size hk48
   replace hk42 := frr hk42 hk48 rel39
   have own54 : ∀ q, F49 q → 0 ≤ q := fun q hq => by rcases hfr51 q hq with h | h; (have h1 := own38 q h; have h2 := lt44 q h; omega); omega
   have lt53 := Pl.lt ho50
   have rel55 : ∀ q, F49 q → F1 q ∨ w32.heap.size ≤ q := fun q hq => by rcases hfr51 q hq with h | h; exact rel39 q h; exact .inr (by omega)
   have rel56 : ∀ q, F49 q → B q ∨ w.heap.size ≤ q := fun q hq => by rcases hfr51 q hq with h | h; exact rel45 q h; exact .inr (by omega)
   refine Oen [0, 3, 4, 24, 25, 26, 27, 28, 29, 30, 31, 32, 33, 34, 35, 36, 46] <| Vf <| V_skip <| X_block <| X_then <| V_region ?_
   have hw57 : i64.wrap ((j : Int) + 1) = ((j + 1 : Nat) : Int) := wrp
   refine On 2 [0, 3, 24, 25, 26, 27, 28, 29, 30, 31, 32, 33, 34, 35, 36, 41] <| Oq (u := nt (i64.wrap ((j : Int) + 1))) (v := nt ((j + 1 : Nat) : Int)) 41 (by rw [hw57]) <| Os 3 [(0, pt b), (3, nt a), (4, nt ((j + 1 : Nat) : Int)), (24, pt b), (25, pt b), (26, pt b), (27, pt l11), (28, nt a), (29, nt (lockedL cs a)), (30, pt b), (31, pt b), (32, po_ b 2), (33, pt x11), (34, nt a), (35, nt (lockedL cs a)), (36, .bool (!(decide (lockedL cs a = lockedL cs a))))] <| OI_end rfl ?_
   exact V_again (k41 - 1) (by omega) [(0, pt b), (3, nt a), (4, nt ((j + 1 : Nat) : Int)), (24, pt b), (25, pt b), (26, pt b), (27, pt l11), (28, nt a), (29, nt (lockedL cs a)), (30, pt b), (31, pt b), (32, po_ b 2), (33, pt x11), (34, nt a), (35, nt (lockedL cs a)), (36, .bool (!(decide (lockedL cs a = lockedL cs a))))] rfl ⟨j + 1, F49, by omega, ho50, (fun q hq => by have h1 := own54 q hq; have h2 := lt53 q hq; omega), rel55, hk42, rfl⟩
  refine V_exit <| X_exit_then <| X_exit_then <| X_exit_here <| X_block <| X_then <| V_region ?_
  have hw58 : i64.wrap (a + 1) = a + 1 := wrp
  refine On 2 [0, 9, 24, 25, 26, 27, 28, 29, 30, 31, 32, 33, 34, 35, 36] <| Oq (u := nt (i64.wrap (a + 1))) (v := nt (a + 1)) 9 (by rw [hw58]) <| Os 3 [(0, pt b), (3, nt (a + 1)), (24, pt b), (25, pt b), (26, pt b), (27, pt l11), (28, nt a), (29, nt (lockedL cs a)), (30, pt b), (31, pt b), (32, po_ b 2), (33, pt x11), (34, nt a), (35, nt (lockedL cs a)), (36, .bool (!(decide (lockedL cs a = lockedL cs a))))] <| OI_end rfl ?_
  exact V_again (k6 - 1) (by omega) [(0, pt b), (3, nt (a + 1))] rfl ⟨i + 1, a + 1, F36, by omega, by omega, ho37, (fun q hq => by have h1 := own38 q hq; have h2 := lt44 q hq; omega), rel45, hk7, rfl⟩
 refine V_exit <| X_exit_then <| X_exit_then <| X_exit_here <| X_then <| V_seq <| Vn [0, 5] <| V_block <| Vp [(0, pt b), (5, nt (-1))] <| V_loop (fun k wI e => ∃ r : Nat, ∃ c : Int, (k + r = 14) ∧ (c = (r : Int) - 1) ∧ Keep none_ w5 wI ∧ e = [(0, pt b), (5, nt c)]) 14 ⟨0, -1, by omega, by omega, Keep.refl _ _, rfl⟩ ?_
 rintro k60 w59 _ ⟨r, c, hkr, hc, hk61, rfl⟩
 have hsz62 := Keep.size hk61
 replace hb11 := hb11.k0 hk61
 replace hK0 := hK0.tn hk61
 replace ho2 := Pl.keep ho2 hk61 nk
 replace hv11 := hv11.keep hk61 nk
 replace hy11 := DVt.keep hy11 hk61 nk
 have hzhk61 := Keep.size hk61
 refine V_seq <| Vn [0, 5, 48] <| Vi (c ≤ 12) (fun hc63 => ?_) (fun hc63 => ?_)
 ·
  refine Vsk <| V_seq <| V_block <| V_seq <| Vd1 (acts [5, 11]) none_ [0, 1, 2, 3, 4, 5, 6, 7, 8, 9, 10, 11, 12] fun w65 hk64 he66 K69 _ => ?_
  replace hb11 := hb11.k0 hk64
  replace hv11 := hv11.keep hk64 nk
  replace hy11 := DVt.keep hy11 hk64 nk
  replace hk61 := hk61.tn hk64
  have qhb11 := hb11
  refine Gn [3, 4, 5, 6, 7, 8, 9, 10, 11, 12] [0, 5, 53] <| Mr 1 (pt v11) qhb11 <| Gn [5, 6, 7, 8, 9, 10, 11, 12] [0, 5, 54, 55] <| Hg (tally_spec F11 v11 s c _ (hv11).1) ?_
  rintro _ w70 ⟨rfl, hk71⟩
  have K72 := K69.tr (Keep.ofNone hk71)
  refine ⟨_, rfl, K72, ?_⟩
  have hzK72 := Keep.size K72
  have hsz73 := Keep.size hk71
  replace hy11 := DVt.keep hy11 hk71 nk
  replace hk61 := hk61.tn hk71
  refine Gn [9, 10, 11, 12] [0, 5, 56, 59] <| Mr 3 (pt y11) qhb11 <| Gn [11, 12] [0, 5, 56, 60, 61] <| Jk (dtally_spec I11 y11 s c _ hy11) fun w74 hk75 _ => ?_
  replace hk61 := hk61.tn hk75
  refine GI_pure (some 63) ((Op.binOp BinOp.neq 43 (Operand.tmp 56) (Operand.tmp 62) 43)) (by kernel_rfl) (by kernel_rfl) (pure_neq_same (xs := Tly.cells (tallyT s c)) (by kernel_rfl) (by kernel_rfl) (by kernel_rfl) (by kernel_rfl)) <| GI_end <| X_then <| Vf <| V_skip <| X_block <| X_then <| V_region ?_
  have hw77 : i64.wrap (c + 1) = c + 1 := wrp
  refine On 2 [0, 50] <| Oq (u := nt (i64.wrap (c + 1))) (v := nt (c + 1)) 50 (by rw [hw77]) <| Os 3 [(0, pt b), (5, nt (c + 1))] <| OI_end rfl ?_
  exact V_again (k60 - 1) (by omega) [(0, pt b), (5, nt (c + 1))] rfl ⟨r + 1, c + 1, by omega, by omega, hk61, rfl⟩
 exact V_exit <| X_exit_then <| X_exit_then <| X_exit_here <| X_then <| Vn [2] <| Rr (.bool true) ⟨by simp, ⟨F1, ho2, rel10⟩, hK0⟩
end Go.Al
namespace Go.Al
open Go Go.RowKit Go.Proofs
theorem voteC_len (xs : List Acc) (cs : List Ci) (s : VS) (who ref : Int) (x : Vt) : (voteC xs cs s who ref x).length ≤ cs.length + 1 := by
  unfold voteC
  split
  · split
    · omega
    · exact raiseC_len _ _ _ _
  · omega
theorem delC2_len (xs : List Acc) (cs : List Ci) (s : VS) (who t to level n : Int) : (delC2 xs cs s who t to level n).length ≤ cs.length + 1 := by
  unfold delC2
  split
  · exact raiseC_len _ _ _ _
  · omega
theorem unlC_len (cs : List Ci) (s : VS) (who t now : Int) : (unlC cs s who t now).length ≤ cs.length + 1 := by
  unfold unlC
  split
  · exact lockC_len _ _ _ _
  · omega
theorem actC_len (z : Av) (now : Int) (s : VS) (xs : List Acc) (cs : List Ci) : (actC z now s xs cs).length ≤ cs.length + 1 := by
  unfold actC
  repeat' split
  all_goals first | omega | exact voteC_len _ _ _ _ _ _ | exact delC2_len _ _ _ _ _ _ _ _ | exact unlC_len _ _ _ _ _
theorem lift_int (x : List Value) (h : Flat [.int .i64] x) : ∃ y : Int, intc y = x := by
  cases x with
  | nil => exact h.elim
  | cons v l =>
    cases l with
    | nil => obtain ⟨⟨n, rfl, _⟩, _⟩ := h; exact ⟨n, rfl⟩
    | cons u l => exact h.2.elim
end Go.Al
namespace Go.Al
open Go Go.RowKit Go.Proofs
variable {cs : List Ci} {now ref t who : Int} {s : VS} {xs : List Acc}
theorem openS_err (h : ¬ openE s ref t = 0) : openS s ref t = s := by unfold openS; rw [if_neg h]
theorem closeS_err {st e : Int} (h : ¬ closeE s ref st = 0) : closeS s ref st e = s := by
  unfold closeS
  split
  · rfl
  · rw [if_neg h]
theorem voteS_err {x : Vt} (h : ¬ voteE xs s who ref x = 0) : voteS xs s who ref x = s := by unfold voteS; rw [if_neg h]
theorem voteC_err {x : Vt} (h : ¬ voteE xs s who ref x = 0) : voteC xs cs s who ref x = cs := by unfold voteC; rw [if_neg h]
theorem unvS_err (h : ¬ unvE s who ref = 0) : unvS s who ref now = s := by unfold unvS; rw [if_neg h]
theorem delS_err {to level n : Int} (h : ¬ delE xs s who t to level n = 0) : delS xs s who t to level n = s := by unfold delS; rw [if_neg h]
theorem delC2_err {to level n : Int} (h : ¬ delE xs s who t to level n = 0) : delC2 xs cs s who t to level n = cs := by unfold delC2; rw [if_neg h]
theorem undS_err (h : ¬ undE s who t = 0) : undS s who t now = s := by unfold undS; rw [if_neg h]
theorem unlS_err (h : ¬ unlE who t = 0) : unlS s who t now = s := by unfold unlS; rw [if_neg (fun e => h e.1)]
theorem unlC_err (h : ¬ unlE who t = 0) : unlC cs s who t now = cs := by unfold unlC; rw [if_neg h]
end Go.Al
