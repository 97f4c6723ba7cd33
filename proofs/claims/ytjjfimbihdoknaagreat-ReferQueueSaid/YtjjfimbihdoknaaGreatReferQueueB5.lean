/-
  Put together out of 9 texts: Walks of package voting: Vote. Walks of package voting: New; the voting with its tracks. Referenda: what is computed. Walks of package per. Walks of package track. What a Refer holds, and where. Walks of package slices: few numbers are sorted. Walks of package refer: wha
-/
import Derived.Test.YtjjfimbihdoknaaGreatReferQueueB4
open Go.IntKind (i64)
set_option maxRecDepth 10000
namespace Go.Al
open Go Go.RowKit Go.Proofs
def TrkOk (s : VS) : Prop := ∀ (i : Nat) q, s.ps[i]? = some (some q) → 0 ≤ q.track ∧ q.track < 4
def voteE (xs : List Acc) (s : VS) (who ref : Int) (x : Vt) : Int := if ¬ (0 ≤ who ∧ who ≤ 9) ∨ ¬ okV x then 1 else match pollAt s ref with
  | none => 4
  | some q => if ¬ q.state = 0 then 9 else if (s.rc who q.track).d.isSome = true then 5 else if capI x > (acct xs who).free then 6 else if (GV.getC who ref s.cs).isSome = false ∧ (((vrow s who q.track).length : Nat) : Int) ≥ 6 then 3 else 0
def voteT (s : VS) (who ref : Int) (x : Vt) (q : PollS) : Tly := addT (if (GV.getC who ref s.cs).isSome = true then subT q.t (gainT ((GV.getC who ref s.cs).getD Vt.zero) (s.rc who q.track).got) else q.t) (gainT x (s.rc who q.track).got)
def voteS (xs : List Acc) (s : VS) (who ref : Int) (x : Vt) : VS := if voteE xs s who ref x = 0 then (match pollAt s ref with | none => s | some q => { s.setP ref.toNat { q with t := voteT s who ref x q } with cs := GV.setC who ref x s.cs }) else s
def voteC (xs : List Acc) (cs : List Ci) (s : VS) (who ref : Int) (x : Vt) : List Ci := if voteE xs s who ref x = 0 then (match pollAt s ref with | none => cs | some q => raiseC cs who q.track (capI x)) else cs
set_option maxHeartbeats 1000000 in
theorem vote_at (F G : Nat → Prop) (v l : Nat) (P : VP) (s : VS) (xs : List Acc) (cs : List Ci) (who ref : Int) (x : Vt) (w : World) (h : Vot F w v P s) (hl : Led G w l xs cs) (hdis : ∀ q, F q → ¬ G q) (htr : TrkOk s) (hmax : cs.length < 100000) : Calls Tryz.prog 31 #[pt v, pt l, nt who, nt ref, .agg x.cells.toArray] w fun e w' => e = .returned (nt (voteE xs s who ref x)) ∧ (∃ F' G', VotE F' w' v (voteS xs s who ref x) ∧ Led G' w' l xs (voteC xs cs s who ref x) ∧ (∀ q, F' q → F q ∨ w.heap.size ≤ q) ∧ (∀ q, G' q → G q ∨ w.heap.size ≤ q) ∧ (∀ q, F' q → ¬ G' q)) ∧ Keep (fun q => F q ∨ G q) w w' := by
 have hFlt := Vot.lt h
 have hvlt := hFlt _ (Vot.at_ h)
 have hFo : ∀ q, F q → 0 ≤ q := fun q _ => Nat.zero_le q
 have hFr : ∀ q, F q → F q ∨ w.heap.size ≤ q := fun _ h => .inl h
 have hGlt := Led.lt hl
 have hllt := hGlt _ (Led.at_ hl)
 have hGo : ∀ q, G q → 0 ≤ q := fun q _ => Nat.zero_le q
 have hGr : ∀ q, G q → G q ∨ w.heap.size ≤ q := fun _ h => .inl h
 obtain ⟨hvl0, hvb⟩ := Vot.vblk h
 have hFv := Vot.at_ h
 have hK0 : Keep (fun q => F q ∨ G q) w w := Keep.refl _ _
 refine eV ?_
 refine Vr <| OI_box 67 (.tmp 4) (.agg (Vt.cells x).toArray) (Vt.cells x) (some 9) (by kernel_rfl) (by kernel_rfl) rfl ?_
 intro b1 w1 e1 hb1 k1 z1
 have hsz2 := Keep.size k1
 replace hvb := hvb.k0 k1
 replace h := h.keep k1 nk
 replace hl := hl.keep k1 nk
 replace hK0 := hK0.tn k1
 have hb1lt := hb1.lt
 refine On 2 [0, 1, 2, 3, 9] <| Oe <| V_seq <| Vr <| On 8 [0, 1, 2, 3, 9, 21, 22] <| Kq (isAcc_spec who _) <| On 12 [0, 1, 2, 3, 9, 26] ?_
 by_cases hg8 : 0 ≤ who ∧ who ≤ 9
 ·
  refine Nt 26 hg8 <| La 0 (Vt.cells x) 6 hb1 (take_all (Vt.len _)) (Vt.len _) <| Kk (cvIs_spec x _) fun w11 hk12 _ => ?_
  replace hvb := hvb.k0 hk12
  replace hb1 := hb1.k0 hk12
  replace h := h.keep hk12 nk
  replace hl := hl.keep hk12 nk
  replace hK0 := hK0.tn hk12
  refine Oen [0, 1, 2, 3, 9, 30] <| V_not (okV x) (by kernel_rfl) (fun hc14 => ?_) (fun hc14 => ?_)
  ·
   refine Vn [10] <| Rt ?_
   have hE15 : voteE xs s who ref x = 1 := by unfold voteE; rw [if_pos (.inr (hc14))]
   exact Xr (nt 1) ⟨by rw [hE15], ⟨F, G, ⟨_, by rw [show voteS xs s who ref x = s from by unfold voteS; rw [hE15, if_neg (by decide)]]; exact h⟩, by rw [show voteC xs cs s who ref x = cs from by unfold voteC; rw [hE15, if_neg (by decide)]]; exact hl, hFr, hGr, hdis⟩, hK0⟩
  refine Vsk <| Vr <| On 2 [0, 1, 2, 3, 9, 31, 32] ?_
  rcases Vot.pollcase h ref with ⟨hpn16, hpc16⟩ | ⟨i16, b16, q16, hpr16, hpi16, hpp16, hps16, hpa16⟩
  ·
   refine Kk (poll_none F v P s ref _ h hpc16) fun w19 hk20 _ => ?_
   replace h := h.keep hk20 nk
   replace hl := hl.keep hk20 nk
   replace hK0 := hK0.tn hk20
   refine On 4 [0, 1, 2, 3, 9, 11] <| Oe <| V_seq <| V_block <| Vn [0, 1, 2, 3, 9, 11, 34] <| Vo <| Vn [10] <| V_ret <| X_ret_block <| X_ret_then ?_
   have hE22 : voteE xs s who ref x = 4 := by unfold voteE; rw [if_neg (by rintro (h9 | h9); exact h9 hg8; exact h9 hc14)]; rw [hpn16]
   exact Xr (nt 4) ⟨by rw [hE22], ⟨F, G, ⟨_, by rw [show voteS xs s who ref x = s from by unfold voteS; rw [hE22, if_neg (by decide)]]; exact h⟩, by rw [show voteC xs cs s who ref x = cs from by unfold voteC; rw [hE22, if_neg (by decide)]]; exact hl, hFr, hGr, hdis⟩, hK0⟩
  ·
   refine Ok (kl 64 #[(.tmp 31),(.tmp 32)] #[33, 3]) 64 #[pt v, nt ref] (some 33) ((by rw [hpr16]; exact poll_some F v P s i16 b16 _ h hpi16 hpp16)) ?_
   rintro _ w25 ⟨rfl, hk26⟩
   refine ⟨_, rfl, ?_⟩
   have hsz27 := Keep.size hk26
   replace hvb := hvb.k0 hk26
   replace hb1 := hb1.k0 hk26
   replace h := h.keep hk26 nk
   replace hl := hl.keep hk26 nk
   replace hK0 := hK0.tn hk26
   obtain ⟨hm28, hF29⟩ := Vot.pollB h hpp16 hps16
   have hb16lt := hm28.lt
   have hlob16 := hFlt _ hF29
   have hob16 := hFo _ hF29
   have hneb16v : b16 ≠ v := Blk.ne hm28 hvb (by decide)
   refine On 4 [0, 1, 2, 3, 9, 11] <| Oe <| V_seq <| V_block <| Vn [0, 1, 2, 3, 9, 11, 34] <| Vf <| Vr <| On 3 [0, 1, 2, 3, 9, 11, 40] <| Lr 4 (nt ((q16).state)) hm28 <| Oen [0, 1, 2, 3, 9, 11, 37] <| V_not ((q16).state = 0) (by kernel_rfl) (fun hc30 => ?_) (fun hc30 => ?_)
   ·
    refine Vn [10] <| V_ret <| X_ret_block <| X_ret_then ?_
    have hE31 : voteE xs s who ref x = 9 := by unfold voteE; rw [if_neg (by rintro (h9 | h9); exact h9 hg8; exact h9 hc14)]; rw [hpa16]; dsimp only; rw [if_pos hc30]
    exact Xr (nt 9) ⟨by rw [hE31], ⟨F, G, ⟨_, by rw [show voteS xs s who ref x = s from by unfold voteS; rw [hE31, if_neg (by decide)]]; exact h⟩, by rw [show voteC xs cs s who ref x = cs from by unfold voteC; rw [hE31, if_neg (by decide)]]; exact hl, hFr, hGr, hdis⟩, hK0⟩
   refine V_skip <| X_block <| X_then <| Vr <| On 5 [0, 1, 2, 3, 9, 11, 43, 44, 47] <| Lr 0 (nt ((q16).track)) hm28 ?_
   rcases hd32 : (s.rc who ((q16).track)).d with _ | d33
   ·
    refine Kg (record_spec F v P s who ((q16).track) _ h (by omega) (htr _ _ (by assumption))) ?_
    rintro _ w48 ⟨q38, P39, rfl, hgc43, hpp44, hgv45, hmn46, hdl47, ⟨F40, ho41, hfr42⟩, hk49⟩
    refine ⟨_, rfl, ?_⟩
    have hsz50 := Keep.size hk49
    replace hb1 := hb1.keep hk49 (fun hs => by have h1 := hFo _ hs; have h2 := hFlt _ hs; omega)
    replace hl := hl.keep hk49 (fun q hq hs => hdis q hs hq)
    replace hK0 := frl hK0 hk49 hFr
    have own52 : ∀ q, F40 q → 0 ≤ q ∧ q ≠ b1 := fun q hq => by rcases hfr42 q hq with h | h; (have h1 := hFo q h; have h2 := hFlt q h; omega); omega
    have lt51 := Vot.lt ho41
    have rel53 : ∀ q, F40 q → F q ∨ w.heap.size ≤ q := fun q hq => by rcases hfr42 q hq with h | h; exact hFr q h; exact .inr (by omega)
    have dis54 : ∀ q, F40 q → ¬ G q := fun q h1 h2 => by rcases hfr42 q h1 with h | h; exact hdis q h h2; (have h4 := hGlt q h2; omega)
    have hqb16w48 := (show P39.pp[i16]? = some (some ⟨b16, 0, none⟩) from by rw [hpp44]; exact hpp16)
    have hgq38lt := lt51 _ (Vot.at_ ho41)
    obtain ⟨hvlhm55, hm55⟩ := Vot.vblk ho41
    have hF56 := Vot.at_ ho41
    have hvlt := hm55.lt
    have hlov := lt51 _ hF56
    have hov := own52 _ hF56
    obtain ⟨hm57, hF58⟩ := Vot.pollB ho41 hqb16w48 hps16
    have hb16lt := hm57.lt
    have hlob16 := lt51 _ hF58
    have hob16 := own52 _ hF58
    obtain ⟨hF60, hm59⟩ := Vot.recN ho41 hgc43 hd32
    have hq38lt := hm59.lt
    have hloq38 := lt51 _ hF60
    have hoq38 := own52 _ hF60
    have hneb16v : b16 ≠ v := Blk.ne hm57 hm55 (by decide)
    have hneq38v : q38 ≠ v := Blk.ne hm59 hm55 (by decide)
    have hneq38b16 : q38 ≠ b16 := Blk.ne hm59 hm57 (by decide)
    refine On 8 [0, 1, 2, 3, 9, 11, 12] <| Oer <| On 3 [0, 1, 2, 3, 9, 11, 12, 53] <| Lc 12 (pt P39.gv) hm55 (by rw [List.getElem?_append_right (by rw [List.length_map]; omega), List.length_map, hvlhm55]; rfl) ?_
    refine On 6 [0, 1, 2, 3, 9, 11, 12, 54, 55, 56] <| Kk (vget_spec F40 v P39 s who ref _ ho41) fun w63 hk64 _ => ?_
    replace hl := hl.keep hk64 nk
    replace hK0 := hK0.tn hk64
    replace ho41 := ho41.keep hk64 nk
    refine On 10 [0, 1, 2, 3, 9, 11, 12, 58, 59] <| Alc_ 67 (.agg #[nt 0, .bool false, nt 0, nt 0, nt 0, nt 0]) [nt 0, .bool false, nt 0, nt 0, nt 0, nt 0] ?_
    intro b66 w66 e66 hb66 k66 z66
    have hsz67 := Keep.size k66
    replace hb1 := hb1.k0 (hk64.tr k66)
    replace hm55 := hm55.k0 (hk64.tr k66)
    replace hm57 := hm57.k0 (hk64.tr k66)
    replace hm59 := hm59.k0 (hk64.tr k66)
    replace hl := hl.keep k66 nk
    replace hK0 := hK0.tn k66
    replace ho41 := ho41.keep k66 nk
    have hb66lt := hb66.lt
    refine Sg 0 (Vt.cells ((GV.getC who ref s.cs).getD Vt.zero)) hb66 (Vt.len _) (Vt.one _) ?_
    intro w68 hb66_71 hk69 hz70
    replace hb66_71 : Blk w68 b66 (Vt.cells ((GV.getC who ref s.cs).getD Vt.zero)) 67 := (by rwa [over_whole (by rw [Vt.len]; rfl)] at hb66_71)
    have hsz72 := Keep.size hk69
    replace hb1 := hb1.k1 hk69
    replace hm55 := hm55.k1 hk69
    replace hm57 := hm57.k1 hk69
    replace hm59 := hm59.k1 hk69
    replace hl := hl.keep hk69 (fun q hq hs => by have hs : q = b66 := hs; have g0 := hGo q hq; have g1 := hGlt q hq; omega)
    replace hK0 := Keep.fr hK0 hk69
    replace ho41 := ho41.keep hk69 (fun q hq hs => by have hs : q = b66 := hs; have g0 := own52 q hq; have g1 := lt51 q hq; omega)
    refine On 13 [0, 1, 2, 3, 9, 11, 12, 13, 14] <| Oe <| V_seq <| V_block <| Vr <| On 3 [0, 1, 2, 3, 9, 11, 12, 13, 14, 63] <| Lr 0 (.pointer none) hm59 <| Oen [0, 1, 2, 3, 9, 11, 12, 13, 14, 60] <| Vf <| Vr <| La 0 (Vt.cells x) 6 hb1 (take_all (Vt.len _)) (Vt.len _) <| Kk (cvCapital_spec x _) fun w75 hk76 _ => ?_
    replace hl := hl.keep hk76 nk
    replace hK0 := hK0.tn hk76
    replace ho41 := ho41.keep hk76 nk
    refine On 4 [0, 1, 2, 3, 9, 11, 12, 13, 14, 68, 69, 70] <| Kk (free_spec G l xs cs who _ hl) fun w78 hk79 _ => ?_
    replace hb1 := hb1.k0 (hk76.tr hk79)
    replace hm55 := hm55.k0 (hk76.tr hk79)
    replace hm57 := hm57.k0 (hk76.tr hk79)
    replace hm59 := hm59.k0 (hk76.tr hk79)
    replace hb66_71 := hb66_71.k0 (hk76.tr hk79)
    replace hl := hl.keep hk79 nk
    replace hK0 := hK0.tn hk79
    replace ho41 := ho41.keep hk79 nk
    refine Oen [0, 1, 2, 3, 9, 11, 12, 13, 14, 66] <| Vi (capI x > (acct xs who).free) (fun hc81 => ?_) (fun hc81 => ?_)
    ·
     refine Vn [10] <| V_ret <| X_ret_block <| X_ret_then ?_
     have hE82 : voteE xs s who ref x = 6 := by unfold voteE; rw [if_neg (by rintro (h9 | h9); exact h9 hg8; exact h9 hc14)]; rw [hpa16]; dsimp only; rw [if_neg (fun h9 => h9 hc30)]; rw [if_neg (by rw [hd32]; decide)]; rw [if_pos hc81]
     exact Xr (nt 6) ⟨by rw [hE82], ⟨F40, G, ⟨_, by rw [show voteS xs s who ref x = s from by unfold voteS; rw [hE82, if_neg (by decide)]]; exact ho41⟩, by rw [show voteC xs cs s who ref x = cs from by unfold voteC; rw [hE82, if_neg (by decide)]]; exact hl, rel53, hGr, dis54⟩, hK0⟩
    refine Vr <| Os 3 [(0, pt v),(1, pt l),(2, nt who),(3, nt ref),(9, pt b1),(11, pt b16),(12, pt q38),(13, pt b66),(14, .bool ((GV.getC who ref s.cs).isSome)),(76, .bool (!((GV.getC who ref s.cs).isSome)))] ?_
    cases hg83 : (!((GV.getC who ref s.cs).isSome))
    ·
     refine OI_eq [(0, pt v),(1, pt l),(2, nt who),(3, nt ref),(9, pt b1),(11, pt b16),(12, pt q38),(13, pt b66),(14, .bool ((GV.getC who ref s.cs).isSome)),(76, .bool false)] (by first | rfl | rw [hg83]) <| Oen [0, 1, 2, 3, 9, 11, 12, 13, 14, 73] <| Vf <| V_skip <| X_block <| X_then <| V_seq <| Vn [0, 1, 2, 3, 9, 11, 12, 13, 86] <| Vq (u := .bool ((GV.getC who ref s.cs).isSome)) (v := .bool true) 86 (by rw [(show (GV.getC who ref s.cs).isSome = true from by simpa using hg83)]) <| Vo <| Vd1 (acts [10, 11, 14]) none_ [5, 6, 7, 8, 9, 10, 1, 2, 3, 4, 11, 0, 12, 13, 14] fun w86 hk85 he87 K90 _ => ?_
     replace hb1 := hb1.k0 hk85
     replace hm55 := hm55.k0 hk85
     replace hm57 := hm57.k0 hk85
     replace hm59 := hm59.k0 hk85
     replace hb66_71 := hb66_71.k0 hk85
     replace hl := hl.keep hk85 nk
     replace hK0 := hK0.tn hk85
     replace ho41 := ho41.keep hk85 nk
     have qhb1 := hb1
     have qhm55 := hm55
     have qhm57 := hm57
     have qhm59 := hm59
     have qhb66_71 := hb66_71
     refine Ma 0 (Vt.cells ((GV.getC who ref s.cs).getD Vt.zero)) 6 qhb66_71 id (take_all (Vt.len _)) (Vt.len _) <| Gn [9, 10, 1, 2, 3, 4, 11, 0, 12, 13, 14] [0, 1, 2, 3, 9, 11, 12, 92, 95] <| Ma 1 [nt (((s.rc who ((q16).track))).got.v), nt (((s.rc who ((q16).track))).got.c)] 2 qhm59 id rfl rfl <| Hg (cvGain_spec ((GV.getC who ref s.cs).getD Vt.zero) (((s.rc who ((q16).track))).got) _) ?_
     rintro _ w93 ⟨rfl, hk94⟩
     have K95 := K90.tr (Keep.ofNone hk94)
     refine ⟨_, rfl, K95, ?_⟩
     have hzK95 := Keep.size K95
     have hsz96 := Keep.size hk94
     replace hl := hl.keep hk94 nk
     replace hK0 := hK0.tn hk94
     replace ho41 := ho41.keep hk94 nk
     refine Gn [4, 11, 0, 12, 13, 14] [0, 1, 2, 3, 9, 11, 12, 90, 97] <| Ma 1 [nt ((q16).t.a), nt ((q16).t.n), nt ((q16).t.s)] 3 qhm57 id rfl rfl <| Hg (cvSub_spec ((q16).t) (gainT ((GV.getC who ref s.cs).getD Vt.zero) (((s.rc who ((q16).track))).got)) _) ?_
     rintro _ w99 ⟨rfl, hk100⟩
     have K101 := K95.tr (Keep.ofNone hk100)
     refine ⟨_, rfl, K101, ?_⟩
     have hzK101 := Keep.size K101
     have hsz102 := Keep.size hk100
     replace hb1 := hb1.k0 (hk94.tr hk100)
     replace hm55 := hm55.k0 (hk94.tr hk100)
     replace hm57 := hm57.k0 (hk94.tr hk100)
     replace hm59 := hm59.k0 (hk94.tr hk100)
     replace hl := hl.keep hk100 nk
     replace hK0 := hK0.tn hk100
     replace ho41 := ho41.keep hk100 nk
     refine Gn [14] [0, 1, 2, 3, 9, 11, 12, 98, 100] <| GI_final 14 (by kernel_rfl) (by kernel_rfl) <| Sg 1 (Tly.cells (subT ((q16).t) (gainT ((GV.getC who ref s.cs).getD Vt.zero) (((s.rc who ((q16).track))).got)))) hm57 (Tly.len _) (Tly.one _) ?_
     intro w103 hn106 hk104 hz105
     replace hn106 : Blk w103 b16 (PollS.cells { q16 with t := (subT ((q16).t) (gainT ((GV.getC who ref s.cs).getD Vt.zero) (((s.rc who ((q16).track))).got))) }) 133 := hn106
     have hsz107 := Keep.size hk104
     replace hb1 := hb1.keep hk104 (by show ¬ (b1 = b16); omega)
     replace hm55 := hm55.keep hk104 (by show ¬ (v = b16); omega)
     replace hm59 := hm59.keep hk104 (by show ¬ (q38 = b16); omega)
     replace hl := hl.keep hk104 (fun q hq hs => dis54 q (by rw [show q = b16 from hs]; exact hF58) hq)
     replace hK0 := Keep.fresh hK0 hk104 (fun i hi hs => by have hs : F40 i := (by rw [show i = b16 from hs]; exact hF58); rcases rel53 i hs with h | h; exact .inl h; (exfalso; omega))
     obtain ⟨tv109, htv109⟩ : ∃ t9 : Tly, t9 = (subT ((q16).t) (gainT ((GV.getC who ref s.cs).getD Vt.zero) (((s.rc who ((q16).track))).got))) := ⟨_, rfl⟩
     rw [← htv109] at hn106
     have ho108 := Vot.setPoll ho41 hqb16w48 hps16 hk104 (show Blk _ _ (PollS.cells { q16 with t := tv109 }) _ from hn106)
     have hs110 : (s.setP i16 { q16 with t := tv109 }).ps[i16]? = some (some { q16 with t := tv109 }) := List.getElem?_set_self (List.getElem?_eq_some_iff.1 hps16).1
     have hb16lt := hn106.lt
     refine Oe <| V_seq <| Vd1 (acts [10, 11, 12, 15]) none_ [5, 6, 7, 8, 9, 10, 11, 1, 2, 3, 4, 12, 0, 13, 14, 15] fun w112 hk111 he113 K116 _ => ?_
     replace hb1 := hb1.k0 hk111
     replace hm55 := hm55.k0 hk111
     replace hm59 := hm59.k0 hk111
     replace hn106 := hn106.k0 hk111
     replace hl := hl.keep hk111 nk
     replace hK0 := hK0.tn hk111
     replace ho108 := ho108.keep hk111 nk
     have qhb1 := hb1
     have qhm55 := hm55
     have qhm59 := hm59
     have qhn106 := hn106
     refine Ma 0 (Vt.cells x) 6 qhb1 id (take_all (Vt.len _)) (Vt.len _) <| Gn [9, 10, 11, 1, 2, 3, 4, 12, 0, 13, 14, 15] [0, 1, 2, 3, 9, 11, 106, 109] <| Ma 1 [nt (((s.rc who ((q16).track))).got.v), nt (((s.rc who ((q16).track))).got.c)] 2 qhm59 id rfl rfl <| Hg (cvGain_spec x (((s.rc who ((q16).track))).got) _) ?_
     rintro _ w119 ⟨rfl, hk120⟩
     have K121 := K116.tr (Keep.ofNone hk120)
     refine ⟨_, rfl, K121, ?_⟩
     have hzK121 := Keep.size K121
     have hsz122 := Keep.size hk120
     replace hl := hl.keep hk120 nk
     replace hK0 := hK0.tn hk120
     replace ho108 := ho108.keep hk120 nk
     refine GI_slit (E := 55) (zv := .agg #[nt 0, nt 0, nt 0]) (sz := 3) (by_ := 24) 207 1 #[(0, (Operand.tmp 111))] [.agg (Tly.cells (gainT x (((s.rc who ((q16).track))).got))).toArray] (Tly.cells (gainT x (((s.rc who ((q16).track))).got))) (some 112) (by kernel_rfl) (by kernel_rfl) K121 (by kernel_rfl) (by kernel_rfl) (by omega) rfl (by omega) (by intro v hv; obtain rfl := List.mem_singleton.1 hv; show (Tly.cells (gainT x (((s.rc who ((q16).track))).got))).toArray.size = 3; simp [Tly.len]) (by kernel_rfl) (by show (Tly.cells (gainT x (((s.rc who ((q16).track))).got))).toArray.toList ++ [] = _; simp) ?_
     intro b123 w123 e123 hb123 k123 z123 K124
     have hsz125 := Keep.size k123
     replace hl := hl.keep k123 nk
     replace hK0 := hK0.tn k123
     replace ho108 := ho108.keep k123 nk
     have hb123lt := hb123.lt
     refine Gn [4, 12, 0, 13, 14, 15] [0, 1, 2, 3, 9, 11, 104, 112] <| Ma 1 [nt ((tv109).a), nt ((tv109).n), nt ((tv109).s)] 3 qhn106 id rfl rfl <| Gk (kl 71 #[(.tmp 105),(.tmp 112)] #[55, 207]) 71 #[.agg #[nt ((tv109).a), nt ((tv109).n), nt ((tv109).s)], sl_ b123 0 1 1] (some 113) (cvAdd1 b123 (Tly.mk ((tv109).a) ((tv109).n) ((tv109).s)) (gainT x (((s.rc who ((q16).track))).got)) _ _ hb123) ?_
     rintro _ w130 ⟨rfl, hk131⟩
     have K132 := K124.tr (Keep.ofNone hk131)
     refine ⟨_, rfl, K132, ?_⟩
     have hzK132 := Keep.size K132
     have hsz133 := Keep.size hk131
     replace hb1 := hb1.k0 ((hk120.tr k123).tr hk131)
     replace hm55 := hm55.k0 ((hk120.tr k123).tr hk131)
     replace hn106 := hn106.k0 ((hk120.tr k123).tr hk131)
     replace hl := hl.keep hk131 nk
     replace hK0 := hK0.tn hk131
     replace ho108 := ho108.keep hk131 nk
     refine Gn [15] [0, 1, 2, 3, 9, 11, 113, 115] <| GI_final 15 (by kernel_rfl) (by kernel_rfl) <| Sg 1 (Tly.cells (addT (Tly.mk ((tv109).a) ((tv109).n) ((tv109).s)) (gainT x (((s.rc who ((q16).track))).got)))) hn106 (Tly.len _) (Tly.one _) ?_
     intro w134 hn137 hk135 hz136
     replace hn137 : Blk w134 b16 (PollS.cells { q16 with t := (addT (Tly.mk ((tv109).a) ((tv109).n) ((tv109).s)) (gainT x (((s.rc who ((q16).track))).got))) }) 133 := hn137
     have hsz138 := Keep.size hk135
     replace hb1 := hb1.keep hk135 (by show ¬ (b1 = b16); omega)
     replace hm55 := hm55.keep hk135 (by show ¬ (v = b16); omega)
     replace hl := hl.keep hk135 (fun q hq hs => dis54 q (by rw [show q = b16 from hs]; exact hF58) hq)
     replace hK0 := Keep.fresh hK0 hk135 (fun i hi hs => by have hs : F40 i := (by rw [show i = b16 from hs]; exact hF58); rcases rel53 i hs with h | h; exact .inl h; (exfalso; omega))
     obtain ⟨tv140, htv140⟩ : ∃ t9 : Tly, t9 = (addT (Tly.mk ((tv109).a) ((tv109).n) ((tv109).s)) (gainT x (((s.rc who ((q16).track))).got))) := ⟨_, rfl⟩
     rw [← htv140] at hn137
     have ho139 := Vot.setPoll ho108 hqb16w48 hs110 hk135 (show Blk _ _ (PollS.cells { q16 with t := tv140 }) _ from hn137)
     have hs141 : ((s.setP i16 { q16 with t := tv109 }).setP i16 { q16 with t := tv140 }).ps[i16]? = some (some { q16 with t := tv140 }) := List.getElem?_set_self (List.getElem?_eq_some_iff.1 hs110).1
     have hb16lt := hn137.lt
     refine Oe <| V_seq <| Vd1 (acts [7]) none_ [0, 1, 2, 3, 4, 5, 6, 7] fun w143 hk142 he144 K147 _ => ?_
     replace hb1 := hb1.k0 hk142
     replace hm55 := hm55.k0 hk142
     replace hl := hl.keep hk142 nk
     replace hK0 := hK0.tn hk142
     replace ho139 := ho139.keep hk142 nk
     have qhb1 := hb1
     have qhm55 := hm55
     refine Gn [3, 4, 5, 6, 7] [1, 2, 3, 9, 11, 118] <| Mc0 12 (pt P39.gv) qhm55 (by rw [List.getElem?_append_right (by rw [List.length_map]; omega), List.length_map, hvlhm55]; rfl) ?_
     refine Gn [6, 7] [1, 2, 9, 11, 119, 120, 121] <| Ma 0 (Vt.cells x) 6 qhb1 id (take_all (Vt.len _)) (Vt.len _) <| GI_final 7 (by kernel_rfl) (by kernel_rfl) <| Kg (vset_spec F40 v P39 ((s.setP i16 { q16 with t := tv109 }).setP i16 { q16 with t := tv140 }) who ref x _ ho139 (by omega) (by omega) hc14 (by rw [hpr16, Int.toNat_natCast]; exact ⟨_, hs141⟩)) ?_
     rintro _ w152 ⟨rfl, ⟨F154, ho155, hfr156⟩, hk153⟩
     refine ⟨_, rfl, ?_⟩
     have hsz157 := Keep.size hk153
     replace hb1 := hb1.keep hk153 (fun hs => by have h1 := own52 _ hs; have h2 := lt51 _ hs; omega)
     replace hl := hl.keep hk153 (fun q hq hs => dis54 q hs hq)
     replace hK0 := frl hK0 hk153 rel53
     have own159 : ∀ q, F154 q → 0 ≤ q ∧ q ≠ b1 ∧ q ≠ b66 ∧ q ≠ b123 := fun q hq => by rcases hfr156 q hq with h | h; (have h1 := own52 q h; have h2 := lt51 q h; omega); omega
     have lt158 := Vot.lt ho155
     have rel160 : ∀ q, F154 q → F q ∨ w.heap.size ≤ q := fun q hq => by rcases hfr156 q hq with h | h; exact rel53 q h; exact .inr (by omega)
     have dis161 : ∀ q, F154 q → ¬ G q := fun q h1 h2 => by rcases hfr156 q h1 with h | h; exact dis54 q h h2; (have h4 := hGlt q h2; omega)
     obtain ⟨hvlhm162, hm162⟩ := Vot.vblk ho155
     have hF163 := Vot.at_ ho155
     have hvlt := hm162.lt
     have hlov := lt158 _ hF163
     have hov := own159 _ hF163
     obtain ⟨hm164, hF165⟩ := Vot.pollB ho155 hqb16w48 hs141
     have hb16lt := hm164.lt
     have hlob16 := lt158 _ hF165
     have hob16 := own159 _ hF165
     obtain ⟨hF167, hm166⟩ := Vot.recN ho155 hgc43 hd32
     have hq38lt := hm166.lt
     have hloq38 := lt158 _ hF167
     have hoq38 := own159 _ hF167
     have hneb16v : b16 ≠ v := Blk.ne hm164 hm162 (by decide)
     have hneq38v : q38 ≠ v := Blk.ne hm166 hm162 (by decide)
     have hneq38b16 : q38 ≠ b16 := Blk.ne hm166 hm164 (by decide)
     refine Oe <| V_seq <| Vd1 (acts [7, 8]) none_ [6, 7, 0, 1, 2, 3, 4, 5, 8] fun w169 hk168 he170 K173 _ => ?_
     replace hb1 := hb1.k0 hk168
     replace hm164 := hm164.k0 hk168
     replace hl := hl.keep hk168 nk
     replace hK0 := hK0.tn hk168
     replace ho155 := ho155.keep hk168 nk
     have qhb1 := hb1
     have qhm164 := hm164
     refine Ma 0 (Vt.cells x) 6 qhb1 id (take_all (Vt.len _)) (Vt.len _) <| Hg (cvCapital_spec x _) ?_
     rintro _ w176 ⟨rfl, hk177⟩
     have K178 := K173.tr (Keep.ofNone hk177)
     refine ⟨_, rfl, K178, ?_⟩
     have hzK178 := Keep.size K178
     have hsz179 := Keep.size hk177
     replace hl := hl.keep hk177 nk
     replace hK0 := hK0.tn hk177
     replace ho155 := ho155.keep hk177 nk
     refine Gn [5, 8] [124, 125, 128, 131] <| Mr 0 (nt ((q16).track)) qhm164 <| GI_final 8 (by kernel_rfl) (by kernel_rfl) <| Kg (raise_spec G l xs cs who ((q16).track) (capI x) _ hl hmax) ?_
     rintro _ w182 ⟨rfl, ⟨F184, ho185, hfr186⟩, hk183⟩
     refine ⟨_, rfl, ?_⟩
     have hsz187 := Keep.size hk183
     replace hK0 := frR hK0 hk183 hGr
     replace ho155 := ho155.keep hk183 (fun q hq hs => dis161 q hq hs)
     have own189 : ∀ q, F184 q → 0 ≤ q ∧ q ≠ b1 ∧ q ≠ b66 ∧ q ≠ b123 := fun q hq => by rcases hfr186 q hq with h | h; (have h1 := hGo q h; have h2 := hGlt q h; omega); omega
     have lt188 := Led.lt ho185
     have rel190 : ∀ q, F184 q → G q ∨ w.heap.size ≤ q := fun q hq => by rcases hfr186 q hq with h | h; exact hGr q h; exact .inr (by omega)
     have dis191 : ∀ q, F184 q → ¬ F154 q := fun q h1 h2 => by rcases hfr186 q h1 with h | h; exact dis161 q h2 h; (have h4 := lt158 q h2; omega)
     obtain ⟨hvlhm192, hm192⟩ := Vot.vblk ho155
     have hF193 := Vot.at_ ho155
     have hvlt := hm192.lt
     have hlov := lt158 _ hF193
     have hov := own159 _ hF193
     obtain ⟨hm194, hF195⟩ := Vot.pollB ho155 hqb16w48 hs141
     have hb16lt := hm194.lt
     have hlob16 := lt158 _ hF195
     have hob16 := own159 _ hF195
     obtain ⟨hF197, hm196⟩ := Vot.recN ho155 hgc43 hd32
     have hq38lt := hm196.lt
     have hloq38 := lt158 _ hF197
     have hoq38 := own159 _ hF197
     have hneb16v : b16 ≠ v := Blk.ne hm194 hm192 (by decide)
     have hneq38v : q38 ≠ v := Blk.ne hm196 hm192 (by decide)
     have hneq38b16 : q38 ≠ b16 := Blk.ne hm196 hm194 (by decide)
     refine Oer <| Oen [10] <| V_ret ?_
     have hE198 : voteE xs s who ref x = 0 := by unfold voteE; rw [if_neg (by rintro (h9 | h9); exact h9 hg8; exact h9 hc14)]; rw [hpa16]; dsimp only; rw [if_neg (fun h9 => h9 hc30)]; rw [if_neg (by rw [hd32]; decide)]; rw [if_neg hc81]; rw [if_neg (fun h9 => by rw [(show (GV.getC who ref s.cs).isSome = true from by simpa using hg83)] at h9; cases h9.1)]
     have hVT : voteT s who ref x q16 = tv140 := by unfold voteT; rw [(show (GV.getC who ref s.cs).isSome = true from by simpa using hg83), htv140, htv109]; rfl
     exact Xr (nt 0) ⟨by rw [hE198], ⟨F154, F184, ⟨_, by rw [show voteS xs s who ref x = ({ (s.setP i16 { q16 with t := tv109 }).setP i16 { q16 with t := tv140 } with cs := GV.setC who ref x ((s.setP i16 { q16 with t := tv109 }).setP i16 { q16 with t := tv140 }).cs }) from by unfold voteS; rw [hE198, if_pos rfl, hpa16]; dsimp only; rw [hVT, hpr16, Int.toNat_natCast]; first | rfl | (simp only [VS.setP_setP]; rfl)]; exact ho155⟩, by rw [show voteC xs cs s who ref x = raiseC cs who q16.track (capI x) from by unfold voteC; rw [hE198, if_pos rfl, hpa16]]; exact ho185, rel160, rel190, (fun q h1 h2 => dis191 q h2 h1)⟩, hK0⟩
    refine OI_eq [(0, pt v),(1, pt l),(2, nt who),(3, nt ref),(9, pt b1),(11, pt b16),(12, pt q38),(13, pt b66),(14, .bool ((GV.getC who ref s.cs).isSome)),(76, .bool true)] (by first | rfl | rw [hg83]) <| On 8 [0, 1, 2, 3, 9, 11, 12, 13, 14, 76, 77, 78, 81] <| Lr 0 (nt ((q16).track)) hm57 <| Kk (count_spec F40 v P39 s who ((q16).track) _ ho41) fun w201 hk202 _ => ?_
    replace hb1 := hb1.k0 hk202
    replace hm55 := hm55.k0 hk202
    replace hm57 := hm57.k0 hk202
    replace hm59 := hm59.k0 hk202
    replace hl := hl.keep hk202 nk
    replace hK0 := hK0.tn hk202
    replace ho41 := ho41.keep hk202 nk
    refine Oen [0, 1, 2, 3, 9, 11, 12, 13, 14, 73] <| Vi ((((vrow s who ((q16).track)).length : Nat) : Int) ≥ 6) (fun hc204 => ?_) (fun hc204 => ?_)
    ·
     refine Vn [10] <| V_ret <| X_ret_block <| X_ret_then ?_
     have hE205 : voteE xs s who ref x = 3 := by unfold voteE; rw [if_neg (by rintro (h9 | h9); exact h9 hg8; exact h9 hc14)]; rw [hpa16]; dsimp only; rw [if_neg (fun h9 => h9 hc30)]; rw [if_neg (by rw [hd32]; decide)]; rw [if_neg hc81]; rw [if_pos ⟨(show (GV.getC who ref s.cs).isSome = false from by simpa using hg83), hc204⟩]
     exact Xr (nt 3) ⟨by rw [hE205], ⟨F40, G, ⟨_, by rw [show voteS xs s who ref x = s from by unfold voteS; rw [hE205, if_neg (by decide)]]; exact ho41⟩, by rw [show voteC xs cs s who ref x = cs from by unfold voteC; rw [hE205, if_neg (by decide)]]; exact hl, rel53, hGr, dis54⟩, hK0⟩
    refine V_skip <| X_block <| X_then <| V_seq <| Vn [0, 1, 2, 3, 9, 11, 12, 13, 86] <| Vq (u := .bool ((GV.getC who ref s.cs).isSome)) (v := .bool false) 86 (by rw [(show (GV.getC who ref s.cs).isSome = false from by simpa using hg83)]) <| Vf <| Vsk <| V_seq <| Vd1 (acts [10, 11, 12, 15]) none_ [5, 6, 7, 8, 9, 10, 11, 1, 2, 3, 4, 12, 0, 13, 14, 15] fun w208 hk207 he209 K212 _ => ?_
    replace hb1 := hb1.k0 hk207
    replace hm55 := hm55.k0 hk207
    replace hm57 := hm57.k0 hk207
    replace hm59 := hm59.k0 hk207
    replace hl := hl.keep hk207 nk
    replace hK0 := hK0.tn hk207
    replace ho41 := ho41.keep hk207 nk
    have qhb1 := hb1
    have qhm55 := hm55
    have qhm57 := hm57
    have qhm59 := hm59
    refine Ma 0 (Vt.cells x) 6 qhb1 id (take_all (Vt.len _)) (Vt.len _) <| Gn [9, 10, 11, 1, 2, 3, 4, 12, 0, 13, 14, 15] [0, 1, 2, 3, 9, 11, 106, 109] <| Ma 1 [nt (((s.rc who ((q16).track))).got.v), nt (((s.rc who ((q16).track))).got.c)] 2 qhm59 id rfl rfl <| Hg (cvGain_spec x (((s.rc who ((q16).track))).got) _) ?_
    rintro _ w215 ⟨rfl, hk216⟩
    have K217 := K212.tr (Keep.ofNone hk216)
    refine ⟨_, rfl, K217, ?_⟩
    have hzK217 := Keep.size K217
    have hsz218 := Keep.size hk216
    replace hl := hl.keep hk216 nk
    replace hK0 := hK0.tn hk216
    replace ho41 := ho41.keep hk216 nk
    refine GI_slit (E := 55) (zv := .agg #[nt 0, nt 0, nt 0]) (sz := 3) (by_ := 24) 207 1 #[(0, (Operand.tmp 111))] [.agg (Tly.cells (gainT x (((s.rc who ((q16).track))).got))).toArray] (Tly.cells (gainT x (((s.rc who ((q16).track))).got))) (some 112) (by kernel_rfl) (by kernel_rfl) K217 (by kernel_rfl) (by kernel_rfl) (by omega) rfl (by omega) (by intro v hv; obtain rfl := List.mem_singleton.1 hv; show (Tly.cells (gainT x (((s.rc who ((q16).track))).got))).toArray.size = 3; simp [Tly.len]) (by kernel_rfl) (by show (Tly.cells (gainT x (((s.rc who ((q16).track))).got))).toArray.toList ++ [] = _; simp) ?_
    intro b219 w219 e219 hb219 k219 z219 K220
    have hsz221 := Keep.size k219
    replace hl := hl.keep k219 nk
    replace hK0 := hK0.tn k219
    replace ho41 := ho41.keep k219 nk
    have hb219lt := hb219.lt
    refine Gn [4, 12, 0, 13, 14, 15] [0, 1, 2, 3, 9, 11, 104, 112] <| Ma 1 [nt ((q16).t.a), nt ((q16).t.n), nt ((q16).t.s)] 3 qhm57 id rfl rfl <| Gk (kl 71 #[(.tmp 105),(.tmp 112)] #[55, 207]) 71 #[.agg #[nt ((q16).t.a), nt ((q16).t.n), nt ((q16).t.s)], sl_ b219 0 1 1] (some 113) (cvAdd1 b219 (Tly.mk ((q16).t.a) ((q16).t.n) ((q16).t.s)) (gainT x (((s.rc who ((q16).track))).got)) _ _ hb219) ?_
    rintro _ w226 ⟨rfl, hk227⟩
    have K228 := K220.tr (Keep.ofNone hk227)
    refine ⟨_, rfl, K228, ?_⟩
    have hzK228 := Keep.size K228
    have hsz229 := Keep.size hk227
    replace hb1 := hb1.k0 ((hk216.tr k219).tr hk227)
    replace hm55 := hm55.k0 ((hk216.tr k219).tr hk227)
    replace hm57 := hm57.k0 ((hk216.tr k219).tr hk227)
    replace hl := hl.keep hk227 nk
    replace hK0 := hK0.tn hk227
    replace ho41 := ho41.keep hk227 nk
    refine Gn [15] [0, 1, 2, 3, 9, 11, 113, 115] <| GI_final 15 (by kernel_rfl) (by kernel_rfl) <| Sg 1 (Tly.cells (addT (Tly.mk ((q16).t.a) ((q16).t.n) ((q16).t.s)) (gainT x (((s.rc who ((q16).track))).got)))) hm57 (Tly.len _) (Tly.one _) ?_
    intro w230 hn233 hk231 hz232
    replace hn233 : Blk w230 b16 (PollS.cells { q16 with t := (addT (Tly.mk ((q16).t.a) ((q16).t.n) ((q16).t.s)) (gainT x (((s.rc who ((q16).track))).got))) }) 133 := hn233
    have hsz234 := Keep.size hk231
    replace hb1 := hb1.keep hk231 (by show ¬ (b1 = b16); omega)
    replace hm55 := hm55.keep hk231 (by show ¬ (v = b16); omega)
    replace hl := hl.keep hk231 (fun q hq hs => dis54 q (by rw [show q = b16 from hs]; exact hF58) hq)
    replace hK0 := Keep.fresh hK0 hk231 (fun i hi hs => by have hs : F40 i := (by rw [show i = b16 from hs]; exact hF58); rcases rel53 i hs with h | h; exact .inl h; (exfalso; omega))
    obtain ⟨tv236, htv236⟩ : ∃ t9 : Tly, t9 = (addT (Tly.mk ((q16).t.a) ((q16).t.n) ((q16).t.s)) (gainT x (((s.rc who ((q16).track))).got))) := ⟨_, rfl⟩
    rw [← htv236] at hn233
    have ho235 := Vot.setPoll ho41 hqb16w48 hps16 hk231 (show Blk _ _ (PollS.cells { q16 with t := tv236 }) _ from hn233)
    have hs237 : (s.setP i16 { q16 with t := tv236 }).ps[i16]? = some (some { q16 with t := tv236 }) := List.getElem?_set_self (List.getElem?_eq_some_iff.1 hps16).1
    have hb16lt := hn233.lt
    refine Oe <| V_seq <| Vd1 (acts [7]) none_ [0, 1, 2, 3, 4, 5, 6, 7] fun w239 hk238 he240 K243 _ => ?_
    replace hb1 := hb1.k0 hk238
    replace hm55 := hm55.k0 hk238
    replace hl := hl.keep hk238 nk
    replace hK0 := hK0.tn hk238
    replace ho235 := ho235.keep hk238 nk
    have qhb1 := hb1
    have qhm55 := hm55
    refine Gn [3, 4, 5, 6, 7] [1, 2, 3, 9, 11, 118] <| Mc0 12 (pt P39.gv) qhm55 (by rw [List.getElem?_append_right (by rw [List.length_map]; omega), List.length_map, hvlhm55]; rfl) ?_
    refine Gn [6, 7] [1, 2, 9, 11, 119, 120, 121] <| Ma 0 (Vt.cells x) 6 qhb1 id (take_all (Vt.len _)) (Vt.len _) <| GI_final 7 (by kernel_rfl) (by kernel_rfl) <| Kg (vset_spec F40 v P39 (s.setP i16 { q16 with t := tv236 }) who ref x _ ho235 (by omega) (by omega) hc14 (by rw [hpr16, Int.toNat_natCast]; exact ⟨_, hs237⟩)) ?_
    rintro _ w248 ⟨rfl, ⟨F250, ho251, hfr252⟩, hk249⟩
    refine ⟨_, rfl, ?_⟩
    have hsz253 := Keep.size hk249
    replace hb1 := hb1.keep hk249 (fun hs => by have h1 := own52 _ hs; have h2 := lt51 _ hs; omega)
    replace hl := hl.keep hk249 (fun q hq hs => dis54 q hs hq)
    replace hK0 := frl hK0 hk249 rel53
    have own255 : ∀ q, F250 q → 0 ≤ q ∧ q ≠ b1 ∧ q ≠ b66 ∧ q ≠ b219 := fun q hq => by rcases hfr252 q hq with h | h; (have h1 := own52 q h; have h2 := lt51 q h; omega); omega
    have lt254 := Vot.lt ho251
    have rel256 : ∀ q, F250 q → F q ∨ w.heap.size ≤ q := fun q hq => by rcases hfr252 q hq with h | h; exact rel53 q h; exact .inr (by omega)
    have dis257 : ∀ q, F250 q → ¬ G q := fun q h1 h2 => by rcases hfr252 q h1 with h | h; exact dis54 q h h2; (have h4 := hGlt q h2; omega)
    obtain ⟨hvlhm258, hm258⟩ := Vot.vblk ho251
    have hF259 := Vot.at_ ho251
    have hvlt := hm258.lt
    have hlov := lt254 _ hF259
    have hov := own255 _ hF259
    obtain ⟨hm260, hF261⟩ := Vot.pollB ho251 hqb16w48 hs237
    have hb16lt := hm260.lt
    have hlob16 := lt254 _ hF261
    have hob16 := own255 _ hF261
    obtain ⟨hF263, hm262⟩ := Vot.recN ho251 hgc43 hd32
    have hq38lt := hm262.lt
    have hloq38 := lt254 _ hF263
    have hoq38 := own255 _ hF263
    have hneb16v : b16 ≠ v := Blk.ne hm260 hm258 (by decide)
    have hneq38v : q38 ≠ v := Blk.ne hm262 hm258 (by decide)
    have hneq38b16 : q38 ≠ b16 := Blk.ne hm262 hm260 (by decide)
    refine Oe <| V_seq <| Vd1 (acts [7, 8]) none_ [6, 7, 0, 1, 2, 3, 4, 5, 8] fun w265 hk264 he266 K269 _ => ?_
    replace hb1 := hb1.k0 hk264
    replace hm260 := hm260.k0 hk264
    replace hl := hl.keep hk264 nk
    replace hK0 := hK0.tn hk264
    replace ho251 := ho251.keep hk264 nk
    have qhb1 := hb1
    have qhm260 := hm260
    refine Ma 0 (Vt.cells x) 6 qhb1 id (take_all (Vt.len _)) (Vt.len _) <| Hg (cvCapital_spec x _) ?_
    rintro _ w272 ⟨rfl, hk273⟩
    have K274 := K269.tr (Keep.ofNone hk273)
    refine ⟨_, rfl, K274, ?_⟩
    have hzK274 := Keep.size K274
    have hsz275 := Keep.size hk273
    replace hl := hl.keep hk273 nk
    replace hK0 := hK0.tn hk273
    replace ho251 := ho251.keep hk273 nk
    refine Gn [5, 8] [124, 125, 128, 131] <| Mr 0 (nt ((q16).track)) qhm260 <| GI_final 8 (by kernel_rfl) (by kernel_rfl) <| Kg (raise_spec G l xs cs who ((q16).track) (capI x) _ hl hmax) ?_
    rintro _ w278 ⟨rfl, ⟨F280, ho281, hfr282⟩, hk279⟩
    refine ⟨_, rfl, ?_⟩
    have hsz283 := Keep.size hk279
    replace hK0 := frR hK0 hk279 hGr
    replace ho251 := ho251.keep hk279 (fun q hq hs => dis257 q hq hs)
    have own285 : ∀ q, F280 q → 0 ≤ q ∧ q ≠ b1 ∧ q ≠ b66 ∧ q ≠ b219 := fun q hq => by rcases hfr282 q hq with h | h; (have h1 := hGo q h; have h2 := hGlt q h; omega); omega
    have lt284 := Led.lt ho281
    have rel286 : ∀ q, F280 q → G q ∨ w.heap.size ≤ q := fun q hq => by rcases hfr282 q hq with h | h; exact hGr q h; exact .inr (by omega)
    have dis287 : ∀ q, F280 q → ¬ F250 q := fun q h1 h2 => by rcases hfr282 q h1 with h | h; exact dis257 q h2 h; (have h4 := lt254 q h2; omega)
    obtain ⟨hvlhm288, hm288⟩ := Vot.vblk ho251
    have hF289 := Vot.at_ ho251
    have hvlt := hm288.lt
    have hlov := lt254 _ hF289
    have hov := own255 _ hF289
    obtain ⟨hm290, hF291⟩ := Vot.pollB ho251 hqb16w48 hs237
    have hb16lt := hm290.lt
    have hlob16 := lt254 _ hF291
    have hob16 := own255 _ hF291
    obtain ⟨hF293, hm292⟩ := Vot.recN ho251 hgc43 hd32
    have hq38lt := hm292.lt
    have hloq38 := lt254 _ hF293
    have hoq38 := own255 _ hF293
    have hneb16v : b16 ≠ v := Blk.ne hm290 hm288 (by decide)
    have hneq38v : q38 ≠ v := Blk.ne hm292 hm288 (by decide)
    have hneq38b16 : q38 ≠ b16 := Blk.ne hm292 hm290 (by decide)
    refine Oer <| Oen [10] <| V_ret ?_
    have hE294 : voteE xs s who ref x = 0 := by unfold voteE; rw [if_neg (by rintro (h9 | h9); exact h9 hg8; exact h9 hc14)]; rw [hpa16]; dsimp only; rw [if_neg (fun h9 => h9 hc30)]; rw [if_neg (by rw [hd32]; decide)]; rw [if_neg hc81]; rw [if_neg (fun h9 => hc204 h9.2)]
    have hVT : voteT s who ref x q16 = tv236 := by unfold voteT; rw [(show (GV.getC who ref s.cs).isSome = false from by simpa using hg83), htv236]; rfl
    exact Xr (nt 0) ⟨by rw [hE294], ⟨F250, F280, ⟨_, by rw [show voteS xs s who ref x = ({ s.setP i16 { q16 with t := tv236 } with cs := GV.setC who ref x (s.setP i16 { q16 with t := tv236 }).cs }) from by unfold voteS; rw [hE294, if_pos rfl, hpa16]; dsimp only; rw [hVT, hpr16, Int.toNat_natCast]; first | rfl | (simp only [VS.setP_setP]; rfl)]; exact ho251⟩, by rw [show voteC xs cs s who ref x = raiseC cs who q16.track (capI x) from by unfold voteC; rw [hE294, if_pos rfl, hpa16]]; exact ho281, rel256, rel286, (fun q h1 h2 => dis287 q h2 h1)⟩, hK0⟩
   ·
    refine Kg (record_spec F v P s who ((q16).track) _ h (by omega) (htr _ _ (by assumption))) ?_
    rintro _ w309 ⟨q299, P300, rfl, hgc304, hpp305, hgv306, hmn307, hdl308, ⟨F301, ho302, hfr303⟩, hk310⟩
    refine ⟨_, rfl, ?_⟩
    have hsz311 := Keep.size hk310
    replace hl := hl.keep hk310 (fun q hq hs => hdis q hs hq)
    replace hK0 := frl hK0 hk310 hFr
    have own313 : ∀ q, F301 q → 0 ≤ q ∧ q ≠ b1 := fun q hq => by rcases hfr303 q hq with h | h; (have h1 := hFo q h; have h2 := hFlt q h; omega); omega
    have lt312 := Vot.lt ho302
    have rel314 : ∀ q, F301 q → F q ∨ w.heap.size ≤ q := fun q hq => by rcases hfr303 q hq with h | h; exact hFr q h; exact .inr (by omega)
    have dis315 : ∀ q, F301 q → ¬ G q := fun q h1 h2 => by rcases hfr303 q h1 with h | h; exact hdis q h h2; (have h4 := hGlt q h2; omega)
    have hqb16w309 := (show P300.pp[i16]? = some (some ⟨b16, 0, none⟩) from by rw [hpp305]; exact hpp16)
    have hgq299lt := lt312 _ (Vot.at_ ho302)
    obtain ⟨hvlhm316, hm316⟩ := Vot.vblk ho302
    have hF317 := Vot.at_ ho302
    have hvlt := hm316.lt
    have hlov := lt312 _ hF317
    have hov := own313 _ hF317
    obtain ⟨hm318, hF319⟩ := Vot.pollB ho302 hqb16w309 hps16
    have hb16lt := hm318.lt
    have hlob16 := lt312 _ hF319
    have hob16 := own313 _ hF319
    obtain ⟨bd322, hF321, hF323, hm320, hm324⟩ := Vot.recD ho302 hgc304 hd32
    have hbd322lt := hm324.lt
    have hlobd322 := lt312 _ hF323
    have hobd322 := own313 _ hF323
    have hq299lt := hm320.lt
    have hloq299 := lt312 _ hF321
    have hoq299 := own313 _ hF321
    have hneb16v : b16 ≠ v := Blk.ne hm318 hm316 (by decide)
    have hneq299v : q299 ≠ v := Blk.ne hm320 hm316 (by decide)
    have hneq299b16 : q299 ≠ b16 := Blk.ne hm320 hm318 (by decide)
    have hnebd322v : bd322 ≠ v := Blk.ne hm324 hm316 (by decide)
    have hnebd322b16 : bd322 ≠ b16 := Blk.ne hm324 hm318 (by decide)
    have hnebd322q299 : bd322 ≠ q299 := Blk.ne hm324 hm320 (by decide)
    refine On 8 [0, 1, 2, 3, 9, 11, 12] <| Oer <| On 3 [0, 1, 2, 3, 9, 11, 12, 53] <| Lc 12 (pt P300.gv) hm316 (by rw [List.getElem?_append_right (by rw [List.length_map]; omega), List.length_map, hvlhm316]; rfl) ?_
    refine On 6 [0, 1, 2, 3, 9, 11, 12, 54, 55, 56] <| Kk (vget_spec F301 v P300 s who ref _ ho302) fun w327 hk328 _ => ?_
    replace hl := hl.keep hk328 nk
    replace hK0 := hK0.tn hk328
    replace ho302 := ho302.keep hk328 nk
    refine On 10 [0, 1, 2, 3, 9, 11, 12, 58, 59] <| Alc_ 67 (.agg #[nt 0, .bool false, nt 0, nt 0, nt 0, nt 0]) [nt 0, .bool false, nt 0, nt 0, nt 0, nt 0] ?_
    intro b330 w330 e330 hb330 k330 z330
    have hsz331 := Keep.size k330
    replace hm320 := hm320.k0 (hk328.tr k330)
    replace hl := hl.keep k330 nk
    replace hK0 := hK0.tn k330
    replace ho302 := ho302.keep k330 nk
    have hb330lt := hb330.lt
    refine Sg 0 (Vt.cells ((GV.getC who ref s.cs).getD Vt.zero)) hb330 (Vt.len _) (Vt.one _) ?_
    intro w332 hb330_335 hk333 hz334
    replace hb330_335 : Blk w332 b330 (Vt.cells ((GV.getC who ref s.cs).getD Vt.zero)) 67 := (by rwa [over_whole (by rw [Vt.len]; rfl)] at hb330_335)
    have hsz336 := Keep.size hk333
    replace hm320 := hm320.k1 hk333
    replace hl := hl.keep hk333 (fun q hq hs => by have hs : q = b330 := hs; have g0 := hGo q hq; have g1 := hGlt q hq; omega)
    replace hK0 := Keep.fr hK0 hk333
    replace ho302 := ho302.keep hk333 (fun q hq hs => by have hs : q = b330 := hs; have g0 := own313 q hq; have g1 := lt312 q hq; omega)
    refine On 13 [0, 1, 2, 3, 9, 11, 12, 13, 14] <| Oe <| V_seq <| V_block <| Vr <| On 3 [0, 1, 2, 3, 9, 11, 12, 13, 14, 63] <| Lr 0 (pt bd322) hm320 <| Oen [0, 1, 2, 3, 9, 11, 12, 13, 14, 60] <| Vo <| Vn [10] <| V_ret <| X_ret_block <| X_ret_then ?_
    have hE337 : voteE xs s who ref x = 5 := by unfold voteE; rw [if_neg (by rintro (h9 | h9); exact h9 hg8; exact h9 hc14)]; rw [hpa16]; dsimp only; rw [if_neg (fun h9 => h9 hc30)]; rw [if_pos (by rw [hd32]; rfl)]
    exact Xr (nt 5) ⟨by rw [hE337], ⟨F301, G, ⟨_, by rw [show voteS xs s who ref x = s from by unfold voteS; rw [hE337, if_neg (by decide)]]; exact ho302⟩, by rw [show voteC xs cs s who ref x = cs from by unfold voteC; rw [hE337, if_neg (by decide)]]; exact hl, rel314, hGr, dis315⟩, hK0⟩
 refine Nf 26 hg8 <| Oen [0, 1, 2, 3, 9, 30] <| Vo <| Vn [10] <| Rt ?_
 have hE338 : voteE xs s who ref x = 1 := by unfold voteE; rw [if_pos (.inl hg8)]
 exact Xr (nt 1) ⟨by rw [hE338], ⟨F, G, ⟨_, by rw [show voteS xs s who ref x = s from by unfold voteS; rw [hE338, if_neg (by decide)]]; exact h⟩, by rw [show voteC xs cs s who ref x = cs from by unfold voteC; rw [hE338, if_neg (by decide)]]; exact hl, hFr, hGr, hdis⟩, hK0⟩
end Go.Al
namespace Go.Al
open Go Go.RowKit Go.Proofs
variable {s : VS}
def VS.zero : VS := ⟨List.replicate 12 none, [], fun _ _ => RecS.zero⟩
theorem Vot.new {F1 F2 : Nat → Prop} {w : World} {v gv gr : Nat} (h1 : GV.Grd F1 w gv []) (h2 : GR.Grd F2 w gr []) (hb : Blk w v ((List.replicate 12 none).map Value.pointer ++ [pt gv, pt gr]) 127) (d12 : ∀ q, F1 q → ¬ F2 q) (n1 : ∀ q, F1 q → q ≠ v) (n2 : ∀ q, F2 q → q ≠ v) :
    Vot (fun q => F1 q ∨ F2 q ∨ q = v) w v ⟨gv, gr, List.replicate 12 none, []⟩ VS.zero := by
  refine ⟨F1, F2, fun q => q = v, ⟨⟨rfl, (fun c hc => by cases hc),(fun a t d hd => by cases hd)⟩, h1, h2, rfl, fun q hq => by rw [hq]; exact hb.lt, d12, n1, n2, rfl, hb, fun i hi => ?_, ?_, fun c hc => (by cases hc), fun a t => .inl ⟨rfl, rfl⟩, ?_⟩, fun _ h => .inl h, fun _ h => .inr (.inl h), fun _ h => .inr (.inr h), ?_⟩
  · left
    show (List.replicate 12 none)[i]? = some none ∧ (List.replicate 12 none)[i]? = some none
    rw [List.getElem?_replicate, List.getElem?_replicate, if_pos hi, if_pos hi]; exact ⟨rfl, rfl⟩
  · intro i j b hi
    have hi' : (List.replicate 12 (none : Option Addr))[i]? = some (some ⟨b, 0, none⟩) := hi
    rw [List.getElem?_replicate] at hi'
    split at hi' <;> cases hi'
  · intro a t a' t' q hq; cases hq
  · rintro q (h | h | rfl)
    · exact h1.lt q h
    · exact h2.lt q h
    · exact hb.lt
theorem TrkOk.zero : TrkOk VS.zero := by
  intro i q h
  have h' : (List.replicate 12 (none : Option PollS))[i]? = some (some q) := h
  rw [List.getElem?_replicate] at h'
  split at h' <;> cases h'
theorem TrkOk.setP (h : TrkOk s) {i : Nat} {q : PollS} (hq : 0 ≤ q.track ∧ q.track < 4) : TrkOk (s.setP i q) := by
  intro j q' e
  have e' : (s.ps.set i (some q))[j]? = some (some q') := e
  rw [List.getElem?_set] at e'
  split at e'
  · split at e'
    · simp only [Option.some.injEq] at e'; rw [← e']; exact hq
    · cases e'
  · exact h j q' e'
theorem TrkOk.poll (h : TrkOk s) {ref : Int} {q : PollS} (e : pollAt s ref = some q) : 0 ≤ q.track ∧ q.track < 4 := by
  unfold pollAt at e
  split at e
  · cases hg : s.ps[ref.toNat]? with
    | none => rw [hg] at e; cases e
    | some x => rw [hg] at e; exact h _ _ (by rw [hg]; exact congrArg some e)
  · cases e
theorem TrkOk.cs (h : TrkOk s) (c : List GV.Ci) : TrkOk { s with cs := c } := h
theorem TrkOk.openS (h : TrkOk s) (ref t : Int) : TrkOk (openS s ref t) := by
  unfold Al.openS
  split
  · rename_i he
    refine h.setP ?_
    show 0 ≤ t ∧ t < 4
    unfold openE at he
    split at he
    · cases he
    · omega
  · exact h
theorem TrkOk.closeS (h : TrkOk s) (ref st en : Int) : TrkOk (closeS s ref st en) := by
  unfold Al.closeS
  split
  · exact h
  · rename_i q hq
    split
    · exact h.setP (show 0 ≤ q.track ∧ q.track < 4 from h.poll hq)
    · exact h
theorem TrkOk.voteS (h : TrkOk s) (xs : List Acc) (who ref : Int) (x : Vt) : TrkOk (voteS xs s who ref x) := by
  unfold Al.voteS
  split
  · split
    · exact h
    · rename_i q hq; exact h.setP (show 0 ≤ q.track ∧ q.track < 4 from h.poll hq)
  · exact h
def VotT (F : Nat → Prop) (w : World) (v : Nat) (s : VS) : Prop := VotE F w v s ∧ TrkOk s
section
variable {F S : Nat → Prop} {w w' : World} {v N : Nat} {s : VS}
theorem VotT.lt (h : VotT F w v s) : ∀ q, F q → q < w.heap.size := h.1.lt
theorem VotT.at_ (h : VotT F w v s) : F v := h.1.at_
theorem VotT.keep (h : VotT F w v s) (k : Keep S w w') (hS : ∀ q, F q → ¬ S q) : VotT F w' v s := ⟨h.1.keep k hS, h.2⟩
theorem VotT.quiet (h : VotT F w v s) (k : Keep (lb N w) w w') : VotT F w' v s := ⟨h.1.quiet k, h.2⟩
theorem VotT.inv (h : VotT F w v s) : s.Inv := h.1.inv
end
theorem new_votT (w : World) : Calls Tryz.prog 27 #[] w fun e w' => ∃ v F, e = .returned (pt v) ∧ VotT F w' v VS.zero ∧ Keep none_ w w' ∧ (∀ q, F q → w.heap.size ≤ q) := by
 have hK0 := Keep.refl none_ w
 refine eV ?_
 refine Vr <| On 1 [] <| Oer <| Kg (GV.new_grd _) ?_
 rintro _ w1 ⟨g3, F4, rfl, ho5, hk2, hge6⟩
 refine ⟨_, rfl, ?_⟩
 have hsz7 := Keep.size hk2
 replace hK0 := hK0.tn hk2
 have own8 : ∀ q, F4 q → w.heap.size ≤ q := fun q hq => by have h1 := hge6 q hq; omega
 have lt9 := GV.Grd.lt ho5
 have hg3lt : g3 < w1.heap.size := GV.Grd.lt ho5 _ (GV.Grd.at_ ho5)
 have hg3ge := hge6 _ (GV.Grd.at_ ho5)
 refine Kg (GR.new_grd _) ?_
 rintro _ w10 ⟨g12, F13, rfl, ho14, hk11, hge15⟩
 refine ⟨_, rfl, ?_⟩
 have hsz16 := Keep.size hk11
 replace hK0 := hK0.tn hk11
 replace ho5 := GV.Grd.keep ho5 hk11 nk
 have own17 : ∀ q, F13 q → w1.heap.size ≤ q := fun q hq => by have h1 := hge15 q hq; omega
 have lt18 := GR.Grd.lt ho14
 have dis19 : ∀ q, F13 q → ¬ F4 q := fun q h1 h2 => by have h3 := hge15 q h1; have h4 := lt9 q h2; omega
 have hg12lt : g12 < w10.heap.size := GR.Grd.lt ho14 _ (GR.Grd.at_ ho14)
 have hg12ge := hge15 _ (GR.Grd.at_ ho14)
 refine On 3 [3] <| Bx 127 [.pointer none, .pointer none, .pointer none, .pointer none, .pointer none, .pointer none, .pointer none, .pointer none, .pointer none, .pointer none, .pointer none, .pointer none, pt g3, pt g12] ?_
 intro b20 w20 e20 hb20 k20 z20
 have hsz21 := Keep.size k20
 replace hK0 := hK0.tn k20
 replace ho5 := GV.Grd.keep ho5 k20 nk
 replace ho14 := GR.Grd.keep ho14 k20 nk
 have hb20lt := hb20.lt
 refine Ose [(0, pt b20)] <| V_ret ?_
 exact X_return _ rfl ⟨b20, _, rfl, ⟨⟨_, Vot.new (gv := g3) (gr := g12) ho5 ho14 hb20 (fun q h1 h2 => dis19 q h2 h1) (fun q hq => by have h1 := lt9 q hq; omega) (fun q hq => by have h1 := lt18 q hq; omega)⟩, TrkOk.zero⟩, hK0, fun q hq => by rcases hq with h | h | h; (have h1 := own8 q h; omega); (have h1 := own17 q h; omega); omega⟩
theorem vote_spec (F G : Nat → Prop) (v l : Nat) (s : VS) (xs : List Acc) (cs : List Ci) (who ref : Int) (x : Vt) (w : World) (h : VotT F w v s) (hl : Led G w l xs cs) (hdis : ∀ q, F q → ¬ G q) (hmax : cs.length < 100000) : Calls Tryz.prog 31 #[pt v, pt l, nt who, nt ref, .agg x.cells.toArray] w fun e w' => e = .returned (nt (voteE xs s who ref x)) ∧ (∃ F' G', VotT F' w' v (voteS xs s who ref x) ∧ Led G' w' l xs (voteC xs cs s who ref x) ∧ (∀ q, F' q → F q ∨ w.heap.size ≤ q) ∧ (∀ q, G' q → G q ∨ w.heap.size ≤ q) ∧ (∀ q, F' q → ¬ G' q)) ∧ Keep (fun q => F q ∨ G q) w w' := by
  obtain ⟨⟨P, h⟩, ht⟩ := h
  refine (vote_at F G v l P s xs cs who ref x w h hl hdis ht hmax).mono ?_
  rintro e w' ⟨rfl, ⟨F', G', h1, h2, h3⟩, hk⟩
  exact ⟨rfl, ⟨F', G', ⟨h1, ht.voteS _ _ _ _⟩, h2, h3⟩, hk⟩
theorem open_specT (F : Nat → Prop) (v : Nat) (s : VS) (ref t : Int) (w : World) (h : VotT F w v s) : Calls Tryz.prog 44 #[pt v, nt ref, nt t] w fun e w' => e = .returned (nt (openE s ref t)) ∧ (∃ F', VotT F' w' v (openS s ref t) ∧ (∀ q, F' q → F q ∨ w.heap.size ≤ q)) ∧ Keep F w w' := by
  obtain ⟨h, ht⟩ := h
  refine (open_spec F v s ref t w h).mono ?_
  rintro e w' ⟨rfl, ⟨F', h1, h3⟩, hk⟩
  exact ⟨rfl, ⟨F', ⟨h1, ht.openS _ _⟩, h3⟩, hk⟩
theorem close_specT (F : Nat → Prop) (v : Nat) (s : VS) (ref st en : Int) (w : World) (h : VotT F w v s) : Calls Tryz.prog 42 #[pt v, nt ref, nt st, nt en] w fun e w' => e = .returned (nt (closeE s ref st)) ∧ (∃ F', VotT F' w' v (closeS s ref st en) ∧ (∀ q, F' q → F q ∨ w.heap.size ≤ q)) ∧ Keep F w w' := by
  obtain ⟨h, ht⟩ := h
  refine (close_spec F v s ref st en w h).mono ?_
  rintro e w' ⟨rfl, ⟨F', h1, h3⟩, hk⟩
  exact ⟨rfl, ⟨F', ⟨h1, ht.closeS _ _ _⟩, h3⟩, hk⟩
end Go.Al
namespace Go.Al
open Go Go.RowKit Go.Proofs
def heldI (n lo hi : Int) : Int := imin (imax n lo) hi
def ratioI (a b : Int) : Int := if b = 0 then 0 else imin (w64 (Int.tdiv (w64 (a * 1000000000)) b)) 1000000000
def fallsC (c : Crv) : Prop := (0 ≤ c.a ∧ c.a ≤ 1000000000) ∧ (0 ≤ c.b ∧ c.b ≤ c.a) ∧ (1 ≤ c.c ∧ c.c ≤ 1000000000)
instance (c : Crv) : Decidable (fallsC c) := by unfold fallsC; infer_instance
def okCrv (c : Crv) : Prop := (c.k = 1 ∧ fallsC c ∧ c.d = 0) ∨ (c.k = 2 ∧ fallsC c ∧ 1 ≤ c.d ∧ c.d ≤ 1000000000) ∨ (c.k = 3 ∧ (0 ≤ c.a ∧ c.a ≤ 1000000000) ∧ (0 ≤ c.c ∧ c.c ≤ 1000000000) ∧ (1 ≤ c.b ∧ c.b ≤ 1000000000) ∧ c.d = 0)
instance (c : Crv) : Decidable (okCrv c) := by unfold okCrv; infer_instance
def okTrk (t : Trk) : Prop := (1 ≤ t.most ∧ t.most ≤ 12) ∧ (0 ≤ t.deposit ∧ t.deposit ≤ 1073741824) ∧ (0 ≤ t.cap ∧ t.cap ≤ 1073741824) ∧ (0 ≤ t.prepare ∧ t.prepare ≤ 1000) ∧ (0 ≤ t.confirm ∧ t.confirm ≤ 1000) ∧ (0 ≤ t.enact ∧ t.enact ≤ 1000) ∧ (1 ≤ t.decision ∧ t.decision ≤ 1000) ∧ okCrv t.app ∧ okCrv t.sup ∧ (0 ≤ t.rank ∧ t.rank ≤ 2)
instance (t : Trk) : Decidable (okTrk t) := by unfold okTrk; infer_instance
def atI (c : Crv) (x : Int) : Int :=
  if c.k = 1 then (if heldI x 0 1000000000 ≥ c.c then c.b else w64 (c.a - w64 (Int.tdiv (w64 (w64 (c.a - c.b) * heldI x 0 1000000000)) c.c)))
  else if c.k = 2 then imax (w64 (c.a - w64 (w64 (Int.tdiv (heldI x 0 1000000000) c.d) * c.c))) c.b
  else if c.k = 3 then heldI (w64 (w64 (Int.tdiv (w64 (c.a * 1000000000)) (w64 (heldI x 0 1000000000 + c.b))) - c.c)) 0 1000000000 else 0
def apprI (t : Tly) : Int := ratioI t.a (w64 (t.a + t.n))
def passB (t : Trk) (y : Tly) (iss el : Int) : Bool := decide (apprI y ≥ atI t.app (ratioI (imin el t.decision) t.decision)) && decide (ratioI y.s iss ≥ atI t.sup (ratioI (imin el t.decision) t.decision))
def Trk.zero : Trk := ⟨0, 0, 0, 0, 0, 0, ⟨0, 0, 0, 0, 0⟩, ⟨0, 0, 0, 0, 0⟩, 0, 0⟩
def trkO (ts : List Trk) (i : Int) : Option Trk := if 0 ≤ i ∧ i < ts.length then ts[i.toNat]? else none
def trkA (ts : List Trk) (i : Int) : Trk := (trkO ts i).getD Trk.zero
def getR (rs : List Rfm) (i : Int) : Option Rfm := if 0 ≤ i ∧ i < rs.length then rs[i.toNat]? else none
def getA (rs : List Rfm) (i : Int) : Rfm := (getR rs i).getD Rfm.zero
def newR (of : Int) (sum : Nat → Int) (after now who : Int) : Rfm := ⟨1, of, sum, after, now, who, true, -1, -1, -1, 0, Tly.zero⟩
def subE (xs : List Acc) (cs : List Ci) (s : VS) (ts : List Trk) (rs : List Rfm) (who of after : Int) : Int :=
  if (trkO ts of).isNone ∨ who < 0 ∨ who ≥ 10 ∨ after < 0 ∨ after > 1000 then 1 else if rs.length ≥ 12 then 3 else if (pollAt s rs.length).isSome then 5 else spendsE xs cs who 10
def subX (xs : List Acc) (cs : List Ci) (s : VS) (ts : List Trk) (rs : List Rfm) (who of after : Int) : List Acc := if subE xs cs s ts rs who of after = 0 then resX xs cs who 10 else xs
def subS (xs : List Acc) (cs : List Ci) (s : VS) (ts : List Trk) (rs : List Rfm) (who of after : Int) : VS := if subE xs cs s ts rs who of after = 0 then openS s rs.length of else s
def subR (xs : List Acc) (cs : List Ci) (s : VS) (ts : List Trk) (rs : List Rfm) (who of after : Int) (sum : Nat → Int) (now : Int) : List Rfm := if subE xs cs s ts rs who of after = 0 then rs ++ [newR of sum after now who] else rs
def depE (xs : List Acc) (cs : List Ci) (ts : List Trk) (rs : List Rfm) (who ref : Int) : Int := match getR rs ref with
  | none => 4
  | some x => if x.state ≠ 1 then 9 else if x.backer ≠ -1 then 5 else spendsE xs cs who (trkA ts x.track).deposit
def depX (xs : List Acc) (cs : List Ci) (ts : List Trk) (rs : List Rfm) (who ref : Int) : List Acc := if depE xs cs ts rs who ref = 0 then resX xs cs who (trkA ts (getA rs ref).track).deposit else xs
def depR (xs : List Acc) (cs : List Ci) (ts : List Trk) (rs : List Rfm) (who ref : Int) : List Rfm := if depE xs cs ts rs who ref = 0 then rs.set ref.toNat { getA rs ref with backer := who } else rs
def endY (s : VS) (x : Rfm) (ref st now : Int) : Rfm := { x with state := st, stop := now, t := tallyT s ref }
def endR (s : VS) (rs : List Rfm) (ref st now : Int) : List Rfm := rs.set ref.toNat (endY s (getA rs ref) ref st now)
def waitB (ts : List Trk) (of now : Int) (x : Rfm) : Bool := !(decide (x.state ≠ 1) || decide (x.track ≠ of)) && decide (x.since = -1) && (decide (x.backer ≠ -1) && decide (w64 (now - x.sub) ≥ (trkA ts of).prepare))
def decB (of : Int) (x : Rfm) : Bool := !(decide (x.state ≠ 1) || decide (x.track ≠ of)) && decide (x.since ≠ -1)
def waitL (ts : List Trk) (of now : Int) : Nat → List Rfm → List Int
  | _, [] => []
  | i, x :: l => if waitB ts of now x = true then (i : Int) :: waitL ts of now (i + 1) l else waitL ts of now (i + 1) l
def decN (of : Int) : List Rfm → Int
  | [] => 0
  | x :: l => (if decB of x = true then 1 else 0) + decN of l
def sink (key : Int → Int) (x : Int) : List Int → List Int
  | [] => [x]
  | y :: l => if key x > key y then y :: sink key x l else x :: y :: l
def sortD (key : Int → Int) (l : List Int) : List Int := (l.foldl (fun acc x => sink key x acc) []).reverse
def begL (ts : List Trk) (s : VS) (rs : List Rfm) (of now : Int) : List Int :=
  (sortD (fun r => (tallyT s r).a) (waitL ts of now 0 rs)).take (imin ((waitL ts of now 0 rs).length : Int) (imax ((trkA ts of).most - decN of rs) 0)).toNat
def setN (now : Int) (rs : List Rfm) (ref : Int) : List Rfm := rs.set ref.toNat { getA rs ref with since := now }
def begR (ts : List Trk) (s : VS) (now : Int) (rs : List Rfm) (of : Int) : List Rfm := (begL ts s rs of now).foldl (setN now) rs
def begK (ts : List Trk) (s : VS) (now : Int) (rs : List Rfm) : Nat → List Rfm
  | 0 => rs
  | k + 1 => begR ts s now (begK ts s now rs k) (k : Int)
def tillI (ts : List Trk) (x : Rfm) (y : Tly) (iss now : Int) : Int := if passB (trkA ts x.track) y iss (w64 (now - x.since)) = false then -1 else if x.till = -1 then w64 (now + (trkA ts x.track).confirm) else x.till
def decY (ts : List Trk) (x : Rfm) (y : Tly) (iss now : Int) : Rfm := if x.since = -1 then x else { x with till := tillI ts x y iss now }
def decE (ts : List Trk) (x : Rfm) (y : Tly) (iss now : Int) : Int := if x.since = -1 then (if w64 (now - x.sub) ≥ 30 then 4 else 0) else
  if tillI ts x y iss now ≠ -1 ∧ tillI ts x y iss now ≤ now then 2 else if tillI ts x y iss now = -1 ∧ w64 (now - x.since) ≥ (trkA ts x.track).decision then 3 else 0
structure SvS where
  s : VS
  rs : List Rfm
  out : List Evt
def svcStep (ts : List Trk) (iss now : Int) (i : Int) (x : Rfm) (q : SvS) : SvS :=
  if x.state ≠ 1 then q else if decE ts x (tallyT q.s i) iss now = 0 then { q with rs := q.rs.set i.toNat (decY ts x (tallyT q.s i) iss now) }
  else ⟨closeS q.s i (decE ts x (tallyT q.s i) iss now) now, q.rs.set i.toNat (endY q.s (decY ts x (tallyT q.s i) iss now) i (decE ts x (tallyT q.s i) iss now) now), q.out ++ [Evt.mk 1 i (decE ts x (tallyT q.s i) iss now)]⟩
def svcK (ts : List Trk) (iss now : Int) (r0 : List Rfm) (q : SvS) : Nat → SvS
  | 0 => q
  | k + 1 => match r0[k]? with | none => svcK ts iss now r0 q k | some x => svcStep ts iss now k x (svcK ts iss now r0 q k)
def svcQ (ts : List Trk) (xs : List Acc) (s : VS) (rs : List Rfm) (now : Int) : SvS := svcK ts (tot xs) now (begK ts s now rs ts.length) ⟨s, begK ts s now rs ts.length, []⟩ rs.length
end Go.Al
namespace Go.Al
open Go Go.RowKit Go.Proofs
theorem pIn_spec (n lo hi : Int) (w : World) : Calls Tryz.prog 169 #[nt n, nt lo, nt hi] w fun e w' => e = .returned (.bool (decide (lo ≤ n ∧ n ≤ hi))) ∧ w' = w := by
 refine eV ?_
 refine Vr <| On 1 [0, 1, 2] <| Oer <| On 4 [0, 2, 10] ?_
 by_cases hg1 : n ≥ lo
 ·
  exact Dt 10 hg1 <| Oen [6] <| Rr (.bool (decide (n ≤ hi))) ⟨by congr 2; simp only [Bool.decide_and]; by_cases h1 : lo ≤ n <;> simp [h1] <;> omega, rfl⟩
 exact Df 10 hg1 <| Oen [6] <| Rr (.bool false) ⟨by congr 2; simp only [Bool.decide_and]; by_cases h1 : lo ≤ n <;> simp [h1] <;> omega, rfl⟩
theorem tIn_spec (n lo hi : Int) (w : World) : Calls Tryz.prog 120 #[nt n, nt lo, nt hi] w fun e w' => e = .returned (.bool (decide (lo ≤ n ∧ n ≤ hi))) ∧ w' = w := by
 refine eV ?_
 refine Vr <| On 1 [0, 1, 2] <| Oer <| On 4 [0, 2, 10] ?_
 by_cases hg1 : n ≥ lo
 ·
  exact Dt 10 hg1 <| Oen [6] <| Rr (.bool (decide (n ≤ hi))) ⟨by congr 2; simp only [Bool.decide_and]; by_cases h1 : lo ≤ n <;> simp [h1] <;> omega, rfl⟩
 exact Df 10 hg1 <| Oen [6] <| Rr (.bool false) ⟨by congr 2; simp only [Bool.decide_and]; by_cases h1 : lo ≤ n <;> simp [h1] <;> omega, rfl⟩
theorem pheld_spec (n lo hi : Int) (w : World) : Calls Tryz.prog 186 #[nt n, nt lo, nt hi] w fun e w' => e = .returned (nt (heldI n lo hi)) ∧ w' = w := by
 refine eV ?_
 exact Vr <| On 1 [0, 1, 2] <| Oer <| Oen [6] <| Rr (nt (imin (imax n lo) hi)) ⟨by unfold heldI; rfl, rfl⟩
theorem ratio_spec (a b : Int) (w : World) : Calls Tryz.prog 153 #[nt a, nt b] w fun e w' => e = .returned (nt (ratioI a b)) ∧ w' = w := by
 refine eV ?_
 refine Vr <| On 1 [0, 1] <| Oe <| V_seq <| Vn [0, 1, 6] <| Vi (b = 0) (fun hc1 => ?_) (fun hc1 => ?_)
 ·
  exact Vn [4] <| Rt <| Xr (nt 0) ⟨by unfold ratioI; rw [if_pos hc1], rfl⟩
 exact Vsk <| Vr <| On 3 [8, 9] <| OI_pure (some 10) ((Op.binOp BinOp.quo 3 (Operand.tmp 8) (Operand.tmp 9) 3)) (by kernel_rfl) (pure_quo (k := .i64) (a := i64.wrap (a * 1000000000)) (b := b) (by kernel_rfl) (by kernel_rfl) hc1) <| Oen [4] <| Rr (nt (imin (i64.wrap (Int.tdiv (i64.wrap (a * 1000000000)) b)) 1000000000)) ⟨by unfold ratioI; rw [if_neg hc1], rfl⟩
theorem perIs_spec (c : Crv) (w : World) : Calls Tryz.prog 121 #[.agg c.cells.toArray] w fun e w' => e = .returned (.bool (decide (okCrv c))) ∧ Keep none_ w w' := by
 have hK0 := Keep.refl none_ w
 refine eV ?_
 refine Vr <| OI_box 25 (.tmp 0) (.agg (Crv.cells c).toArray) (Crv.cells c) (some 1) (by kernel_rfl) (by kernel_rfl) rfl ?_
 intro b1 w1 e1 hb1 k1 z1
 have hsz2 := Keep.size k1
 replace hK0 := hK0.tn k1
 have hb1lt := hb1.lt
 refine On 2 [1] <| Oer <| On 1 [1, 4] <| Lr 1 (nt c.a) hb1 <| Kq (pIn_spec c.a 0 1000000000 _) <| On 4 [1, 7] ?_
 by_cases hg4 : (0 : Int) ≤ c.a ∧ c.a ≤ 1000000000
 ·
  refine Dt 7 hg4 <| On 5 [1, 7, 8] <| Lr 2 (nt c.b) hb1 <| On 7 [1, 7, 9, 10] <| Lr 1 (nt c.a) hb1 <| Kq (pIn_spec c.b 0 c.a _) <| On 11 [1, 14] ?_
  by_cases hg6 : (0 : Int) ≤ c.b ∧ c.b ≤ c.a
  ·
   refine Dt 14 hg6 <| On 12 [1, 14, 15] <| Lr 3 (nt c.c) hb1 <| Kq (pIn_spec c.c 1 1000000000 _) <| On 16 [1, 3] <| Oe <| V_seq <| Vr <| On 1 [1, 3, 19] <| Lr 0 (nt c.k) hb1 <| Oe <| V_block <| Vn [1, 3, 20, 21] <| Vi (c.k = 1) (fun hc8 => ?_) (fun hc8 => ?_)
   ·
    refine Vr <| On 2 [1, 24] ?_
    by_cases hg9 : (1 : Int) ≤ c.c ∧ c.c ≤ 1000000000
    ·
     exact Dt 24 hg9 <| On 3 [24, 25] <| Lr 4 (nt c.d) hb1 <| Oen [2] <| V_ret <| X_ret_block <| X_ret_then <| Xr (.bool (decide (c.d = 0))) ⟨by congr 2; first | (apply Eq.symm; (try simp only [decide_eq_true_eq]); (try simp only [decide_eq_false_iff_not]); unfold okCrv fallsC; simp_all <;> omega) | (rw [decide_eq_decide]; unfold okCrv fallsC; simp_all <;> omega), hK0⟩
    exact Df 24 hg9 <| Oen [2] <| V_ret <| X_ret_block <| X_ret_then <| Xr (.bool false) ⟨by congr 2; first | (apply Eq.symm; (try simp only [decide_eq_true_eq]); (try simp only [decide_eq_false_iff_not]); unfold okCrv fallsC; simp_all <;> omega) | (rw [decide_eq_decide]; unfold okCrv fallsC; simp_all <;> omega), hK0⟩
   refine Vn [1, 3, 20, 29] <| Vi (c.k = 2) (fun hc10 => ?_) (fun hc10 => ?_)
   ·
    refine Vr <| On 2 [1, 32] ?_
    by_cases hg11 : (1 : Int) ≤ c.c ∧ c.c ≤ 1000000000
    ·
     exact Dt 32 hg11 <| On 3 [32, 33] <| Lr 4 (nt c.d) hb1 <| Kq (pIn_spec c.d 1 1000000000 _) <| Oen [2] <| V_ret <| X_ret_block <| X_ret_then <| Xr (.bool (decide ((1 : Int) ≤ c.d ∧ c.d ≤ 1000000000))) ⟨by congr 2; first | (apply Eq.symm; (try simp only [decide_eq_true_eq]); (try simp only [decide_eq_false_iff_not]); unfold okCrv fallsC; simp_all <;> omega) | (rw [decide_eq_decide]; unfold okCrv fallsC; simp_all <;> omega), hK0⟩
    exact Df 32 hg11 <| Oen [2] <| V_ret <| X_ret_block <| X_ret_then <| Xr (.bool false) ⟨by congr 2; first | (apply Eq.symm; (try simp only [decide_eq_true_eq]); (try simp only [decide_eq_false_iff_not]); unfold okCrv fallsC; simp_all <;> omega) | (rw [decide_eq_decide]; unfold okCrv fallsC; simp_all <;> omega), hK0⟩
   refine Vn [1, 37] <| Vi (c.k = 3) (fun hc13 => ?_) (fun hc13 => ?_)
   ·
    refine Vr <| On 1 [1, 39] <| Lr 1 (nt c.a) hb1 <| Kq (pIn_spec c.a 0 1000000000 _) <| On 4 [1, 42] ?_
    by_cases hg15 : (0 : Int) ≤ c.a ∧ c.a ≤ 1000000000
    ·
     refine Dt 42 hg15 <| On 5 [1, 42, 43] <| Lr 3 (nt c.c) hb1 <| Kq (pIn_spec c.c 0 1000000000 _) <| On 9 [1, 47] ?_
     by_cases hg17 : (0 : Int) ≤ c.c ∧ c.c ≤ 1000000000
     ·
      refine Dt 47 hg17 <| On 10 [1, 47, 48] <| Lr 2 (nt c.b) hb1 <| Kq (pIn_spec c.b 1 1000000000 _) <| On 14 [1, 52] ?_
      by_cases hg19 : (1 : Int) ≤ c.b ∧ c.b ≤ 1000000000
      ·
       exact Dt 52 hg19 <| On 15 [52, 53] <| Lr 4 (nt c.d) hb1 <| Oen [2] <| V_ret <| X_ret_block <| X_ret_then <| Xr (.bool (decide (c.d = 0))) ⟨by congr 2; first | (apply Eq.symm; (try simp only [decide_eq_true_eq]); (try simp only [decide_eq_false_iff_not]); unfold okCrv fallsC; simp_all <;> omega) | (rw [decide_eq_decide]; unfold okCrv fallsC; simp_all <;> omega), hK0⟩
      exact Df 52 hg19 <| Oen [2] <| V_ret <| X_ret_block <| X_ret_then <| Xr (.bool false) ⟨by congr 2; first | (apply Eq.symm; (try simp only [decide_eq_true_eq]); (try simp only [decide_eq_false_iff_not]); unfold okCrv fallsC; simp_all <;> omega) | (rw [decide_eq_decide]; unfold okCrv fallsC; simp_all <;> omega), hK0⟩
     exact Df 47 hg17 <| Oen [2] <| V_ret <| X_ret_block <| X_ret_then <| Xr (.bool false) ⟨by congr 2; first | (apply Eq.symm; (try simp only [decide_eq_true_eq]); (try simp only [decide_eq_false_iff_not]); unfold okCrv fallsC; simp_all <;> omega) | (rw [decide_eq_decide]; unfold okCrv fallsC; simp_all <;> omega), hK0⟩
    exact Df 42 hg15 <| Oen [2] <| V_ret <| X_ret_block <| X_ret_then <| Xr (.bool false) ⟨by congr 2; first | (apply Eq.symm; (try simp only [decide_eq_true_eq]); (try simp only [decide_eq_false_iff_not]); unfold okCrv fallsC; simp_all <;> omega) | (rw [decide_eq_decide]; unfold okCrv fallsC; simp_all <;> omega), hK0⟩
   exact V_skip <| X_block <| X_then <| Vn [2] <| Rr (.bool false) ⟨by congr 2; first | (apply Eq.symm; (try simp only [decide_eq_true_eq]); (try simp only [decide_eq_false_iff_not]); unfold okCrv fallsC; simp_all <;> omega) | (rw [decide_eq_decide]; unfold okCrv fallsC; simp_all <;> omega), hK0⟩
  refine Df 14 hg6 <| On 16 [1, 3] <| Oe <| V_seq <| Vr <| On 1 [1, 3, 19] <| Lr 0 (nt c.k) hb1 <| Oe <| V_block <| Vn [1, 3, 20, 21] <| Vi (c.k = 1) (fun hc20 => ?_) (fun hc20 => ?_)
  ·
   exact Vn [2] <| V_ret <| X_ret_block <| X_ret_then <| Xr (.bool false) ⟨by congr 2; first | (apply Eq.symm; (try simp only [decide_eq_true_eq]); (try simp only [decide_eq_false_iff_not]); unfold okCrv fallsC; simp_all <;> omega) | (rw [decide_eq_decide]; unfold okCrv fallsC; simp_all <;> omega), hK0⟩
  refine Vn [1, 3, 20, 29] <| Vi (c.k = 2) (fun hc21 => ?_) (fun hc21 => ?_)
  ·
   exact Vn [2] <| V_ret <| X_ret_block <| X_ret_then <| Xr (.bool false) ⟨by congr 2; first | (apply Eq.symm; (try simp only [decide_eq_true_eq]); (try simp only [decide_eq_false_iff_not]); unfold okCrv fallsC; simp_all <;> omega) | (rw [decide_eq_decide]; unfold okCrv fallsC; simp_all <;> omega), hK0⟩
  refine Vn [1, 37] <| Vi (c.k = 3) (fun hc22 => ?_) (fun hc22 => ?_)
  ·
   refine Vr <| On 1 [1, 39] <| Lr 1 (nt c.a) hb1 <| Kq (pIn_spec c.a 0 1000000000 _) <| On 4 [1, 42] ?_
   by_cases hg24 : (0 : Int) ≤ c.a ∧ c.a ≤ 1000000000
   ·
    refine Dt 42 hg24 <| On 5 [1, 42, 43] <| Lr 3 (nt c.c) hb1 <| Kq (pIn_spec c.c 0 1000000000 _) <| On 9 [1, 47] ?_
    by_cases hg26 : (0 : Int) ≤ c.c ∧ c.c ≤ 1000000000
    ·
     refine Dt 47 hg26 <| On 10 [1, 47, 48] <| Lr 2 (nt c.b) hb1 <| Kq (pIn_spec c.b 1 1000000000 _) <| On 14 [1, 52] ?_
     by_cases hg28 : (1 : Int) ≤ c.b ∧ c.b ≤ 1000000000
     ·
      exact Dt 52 hg28 <| On 15 [52, 53] <| Lr 4 (nt c.d) hb1 <| Oen [2] <| V_ret <| X_ret_block <| X_ret_then <| Xr (.bool (decide (c.d = 0))) ⟨by congr 2; first | (apply Eq.symm; (try simp only [decide_eq_true_eq]); (try simp only [decide_eq_false_iff_not]); unfold okCrv fallsC; simp_all <;> omega) | (rw [decide_eq_decide]; unfold okCrv fallsC; simp_all <;> omega), hK0⟩
     exact Df 52 hg28 <| Oen [2] <| V_ret <| X_ret_block <| X_ret_then <| Xr (.bool false) ⟨by congr 2; first | (apply Eq.symm; (try simp only [decide_eq_true_eq]); (try simp only [decide_eq_false_iff_not]); unfold okCrv fallsC; simp_all <;> omega) | (rw [decide_eq_decide]; unfold okCrv fallsC; simp_all <;> omega), hK0⟩
    exact Df 47 hg26 <| Oen [2] <| V_ret <| X_ret_block <| X_ret_then <| Xr (.bool false) ⟨by congr 2; first | (apply Eq.symm; (try simp only [decide_eq_true_eq]); (try simp only [decide_eq_false_iff_not]); unfold okCrv fallsC; simp_all <;> omega) | (rw [decide_eq_decide]; unfold okCrv fallsC; simp_all <;> omega), hK0⟩
   exact Df 42 hg24 <| Oen [2] <| V_ret <| X_ret_block <| X_ret_then <| Xr (.bool false) ⟨by congr 2; first | (apply Eq.symm; (try simp only [decide_eq_true_eq]); (try simp only [decide_eq_false_iff_not]); unfold okCrv fallsC; simp_all <;> omega) | (rw [decide_eq_decide]; unfold okCrv fallsC; simp_all <;> omega), hK0⟩
  exact V_skip <| X_block <| X_then <| Vn [2] <| Rr (.bool false) ⟨by congr 2; first | (apply Eq.symm; (try simp only [decide_eq_true_eq]); (try simp only [decide_eq_false_iff_not]); unfold okCrv fallsC; simp_all <;> omega) | (rw [decide_eq_decide]; unfold okCrv fallsC; simp_all <;> omega), hK0⟩
 refine Df 7 hg4 <| On 16 [1, 3] <| Oe <| V_seq <| Vr <| On 1 [1, 3, 19] <| Lr 0 (nt c.k) hb1 <| Oe <| V_block <| Vn [1, 3, 20, 21] <| Vi (c.k = 1) (fun hc29 => ?_) (fun hc29 => ?_)
 ·
  exact Vn [2] <| V_ret <| X_ret_block <| X_ret_then <| Xr (.bool false) ⟨by congr 2; first | (apply Eq.symm; (try simp only [decide_eq_true_eq]); (try simp only [decide_eq_false_iff_not]); unfold okCrv fallsC; simp_all <;> omega) | (rw [decide_eq_decide]; unfold okCrv fallsC; simp_all <;> omega), hK0⟩
 refine Vn [1, 3, 20, 29] <| Vi (c.k = 2) (fun hc30 => ?_) (fun hc30 => ?_)
 ·
  exact Vn [2] <| V_ret <| X_ret_block <| X_ret_then <| Xr (.bool false) ⟨by congr 2; first | (apply Eq.symm; (try simp only [decide_eq_true_eq]); (try simp only [decide_eq_false_iff_not]); unfold okCrv fallsC; simp_all <;> omega) | (rw [decide_eq_decide]; unfold okCrv fallsC; simp_all <;> omega), hK0⟩
 refine Vn [1, 37] <| Vi (c.k = 3) (fun hc31 => ?_) (fun hc31 => ?_)
 ·
  refine Vr <| On 1 [1, 39] <| Lr 1 (nt c.a) hb1 <| Kq (pIn_spec c.a 0 1000000000 _) <| On 4 [1, 42] ?_
  by_cases hg33 : (0 : Int) ≤ c.a ∧ c.a ≤ 1000000000
  ·
   refine Dt 42 hg33 <| On 5 [1, 42, 43] <| Lr 3 (nt c.c) hb1 <| Kq (pIn_spec c.c 0 1000000000 _) <| On 9 [1, 47] ?_
   by_cases hg35 : (0 : Int) ≤ c.c ∧ c.c ≤ 1000000000
   ·
    refine Dt 47 hg35 <| On 10 [1, 47, 48] <| Lr 2 (nt c.b) hb1 <| Kq (pIn_spec c.b 1 1000000000 _) <| On 14 [1, 52] ?_
    by_cases hg37 : (1 : Int) ≤ c.b ∧ c.b ≤ 1000000000
    ·
     exact Dt 52 hg37 <| On 15 [52, 53] <| Lr 4 (nt c.d) hb1 <| Oen [2] <| V_ret <| X_ret_block <| X_ret_then <| Xr (.bool (decide (c.d = 0))) ⟨by congr 2; first | (apply Eq.symm; (try simp only [decide_eq_true_eq]); (try simp only [decide_eq_false_iff_not]); unfold okCrv fallsC; simp_all <;> omega) | (rw [decide_eq_decide]; unfold okCrv fallsC; simp_all <;> omega), hK0⟩
    exact Df 52 hg37 <| Oen [2] <| V_ret <| X_ret_block <| X_ret_then <| Xr (.bool false) ⟨by congr 2; first | (apply Eq.symm; (try simp only [decide_eq_true_eq]); (try simp only [decide_eq_false_iff_not]); unfold okCrv fallsC; simp_all <;> omega) | (rw [decide_eq_decide]; unfold okCrv fallsC; simp_all <;> omega), hK0⟩
   exact Df 47 hg35 <| Oen [2] <| V_ret <| X_ret_block <| X_ret_then <| Xr (.bool false) ⟨by congr 2; first | (apply Eq.symm; (try simp only [decide_eq_true_eq]); (try simp only [decide_eq_false_iff_not]); unfold okCrv fallsC; simp_all <;> omega) | (rw [decide_eq_decide]; unfold okCrv fallsC; simp_all <;> omega), hK0⟩
  exact Df 42 hg33 <| Oen [2] <| V_ret <| X_ret_block <| X_ret_then <| Xr (.bool false) ⟨by congr 2; first | (apply Eq.symm; (try simp only [decide_eq_true_eq]); (try simp only [decide_eq_false_iff_not]); unfold okCrv fallsC; simp_all <;> omega) | (rw [decide_eq_decide]; unfold okCrv fallsC; simp_all <;> omega), hK0⟩
 exact V_skip <| X_block <| X_then <| Vn [2] <| Rr (.bool false) ⟨by congr 2; first | (apply Eq.symm; (try simp only [decide_eq_true_eq]); (try simp only [decide_eq_false_iff_not]); unfold okCrv fallsC; simp_all <;> omega) | (rw [decide_eq_decide]; unfold okCrv fallsC; simp_all <;> omega), hK0⟩
theorem heldI_bnd (x : Int) : 0 ≤ heldI x 0 1000000000 ∧ heldI x 0 1000000000 ≤ 1000000000 := by
  unfold heldI imin imax
  split <;> split <;> omega
theorem w64_id {x : Int} (h1 : -9223372036854775808 ≤ x) (h2 : x ≤ 9223372036854775807) : w64 x = x := wrap64_id (by omega) (by omega)
theorem perAt_spec (c : Crv) (x : Int) (w : World) (hok : okCrv c) : Calls Tryz.prog 155 #[.agg c.cells.toArray, nt x] w fun e w' => e = .returned (nt (atI c x)) ∧ Keep none_ w w' := by
 have hK0 := Keep.refl none_ w
 refine eV ?_
 refine Vr <| OI_box 25 (.tmp 0) (.agg (Crv.cells c).toArray) (Crv.cells c) (some 2) (by kernel_rfl) (by kernel_rfl) rfl ?_
 intro b1 w1 e1 hb1 k1 z1
 have hsz2 := Keep.size k1
 replace hK0 := hK0.tn k1
 have hb1lt := hb1.lt
 refine On 2 [1, 2] <| Oer <| On 1 [2, 5] <| Kq (pheld_spec x 0 1000000000 _) <| On 3 [1, 2] <| Oe <| V_seq <| Vr <| On 1 [1, 2, 7] <| Lr 0 (nt c.k) hb1 <| Oe <| V_block <| Vn [1, 2, 8, 9] <| Vi (c.k = 1) (fun hc4 => ?_) (fun hc4 => ?_)
 ·
  refine V_seq <| Vr <| On 2 [1, 2, 11, 12] <| Lr 3 (nt c.c) hb1 <| Oen [1, 2, 14] <| Vi (heldI x 0 1000000000 ≥ c.c) (fun hc5 => ?_) (fun hc5 => ?_)
  ·
   exact Vr <| On 1 [15] <| Lr 2 (nt c.b) hb1 <| Oen [4] <| Rt <| X_ret_block <| X_ret_then <| Xr (nt c.b) ⟨by unfold atI; rw [if_pos hc4, if_pos hc5], hK0⟩
  refine Vsk <| V_seq <| Vd1 (acts []) none_ [0, 1, 2, 3, 4, 5, 6, 7, 8, 9, 10, 11, 12, 13] fun w7 hk6 he8 K11 _ => ?_
  replace hb1 := hb1.k0 hk6
  replace hK0 := hK0.tn hk6
  have qhb1 := hb1
  exact Gn [1, 2, 3, 4, 5, 6, 7, 8, 9, 10, 11, 12, 13] [1, 2, 17] <| Mr 1 (nt c.a) qhb1 <| Gn [3, 4, 5, 6, 7, 8, 9, 10, 11, 12, 13] [1, 2, 18, 19] <| Mr 1 (nt c.a) qhb1 <| Gn [5, 6, 7, 8, 9, 10, 11, 12, 13] [1, 2, 18, 20, 21] <| Mr 2 (nt c.b) qhb1 <| Gn [10, 11, 12, 13] [18, 25, 26] <| Mr 3 (nt c.c) qhb1 <| GI_pure (some 28) ((Op.binOp BinOp.quo 3 (Operand.tmp 25) (Operand.tmp 27) 3)) (by kernel_rfl) (by kernel_rfl) (pure_quo (k := .i64) (a := i64.wrap ((i64.wrap (c.a - c.b)) * (heldI x 0 1000000000))) (b := c.c) (by kernel_rfl) (by kernel_rfl) (by unfold okCrv fallsC at hok; omega)) <| Gn [] [4] <| GI_end <| X_then <| V_ret <| X_ret_block <| X_ret_then <| Xr (nt (i64.wrap (c.a - (i64.wrap (Int.tdiv (i64.wrap ((i64.wrap (c.a - c.b)) * (heldI x 0 1000000000))) c.c))))) ⟨by unfold atI; rw [if_pos hc4, if_neg hc5], hK0⟩
 refine Vn [1, 2, 8, 30] <| Vi (c.k = 2) (fun hc12 => ?_) (fun hc12 => ?_)
 ·
  refine V_seq <| Vd1 (acts []) none_ [0, 1, 2, 3, 4, 5, 6, 7, 8, 9, 10, 11, 12, 13] fun w14 hk13 he15 K18 _ => ?_
  replace hb1 := hb1.k0 hk13
  replace hK0 := hK0.tn hk13
  have qhb1 := hb1
  exact Gn [1, 2, 3, 4, 5, 6, 7, 8, 9, 10, 11, 12, 13] [1, 2, 32] <| Mr 1 (nt c.a) qhb1 <| Gn [4, 5, 6, 7, 8, 9, 10, 11, 12, 13] [2, 33, 34, 35] <| Mr 4 (nt c.d) qhb1 <| GI_pure (some 37) ((Op.binOp BinOp.quo 3 (Operand.tmp 34) (Operand.tmp 36) 3)) (by kernel_rfl) (by kernel_rfl) (pure_quo (k := .i64) (a := heldI x 0 1000000000) (b := c.d) (by kernel_rfl) (by kernel_rfl) (by unfold okCrv fallsC at hok; omega)) <| Gn [7, 8, 9, 10, 11, 12, 13] [2, 33, 37, 38] <| Mr 3 (nt c.c) qhb1 <| Gn [11, 12, 13] [41, 42] <| Mr 2 (nt c.b) qhb1 <| Gn [] [4] <| GI_end <| X_then <| V_ret <| X_ret_block <| X_ret_then <| Xr (nt (imax (i64.wrap (c.a - (i64.wrap ((i64.wrap (Int.tdiv (heldI x 0 1000000000) c.d)) * c.c)))) c.b)) ⟨by unfold atI; rw [if_neg hc4, if_pos hc12], hK0⟩
 refine Vn [1, 2, 45] <| Vi (c.k = 3) (fun hc19 => ?_) (fun hc19 => ?_)
 ·
  refine V_seq <| Vd1 (acts [11]) none_ [0, 1, 2, 3, 4, 5, 6, 7, 8, 9, 10, 11, 12] fun w21 hk20 he22 K25 _ => ?_
  replace hb1 := hb1.k0 hk20
  replace hK0 := hK0.tn hk20
  have qhb1 := hb1
  exact Gn [1, 2, 3, 4, 5, 6, 7, 8, 9, 10, 11, 12] [1, 2, 47] <| Mr 1 (nt c.a) qhb1 <| Gn [5, 6, 7, 8, 9, 10, 11, 12] [2, 49, 50, 51] <| Mr 2 (nt c.b) qhb1 <| Gn [7, 8, 9, 10, 11, 12] [2, 49, 53] <| GI_pure (some 54) ((Op.binOp BinOp.quo 3 (Operand.tmp 49) (Operand.tmp 53) 3)) (by kernel_rfl) (by kernel_rfl) (pure_quo (k := .i64) (a := i64.wrap (c.a * 1000000000)) (b := i64.wrap ((heldI x 0 1000000000) + c.b)) (by kernel_rfl) (by kernel_rfl) (fun h7 => by unfold okCrv fallsC at hok; have h9 := heldI_bnd x; have h8 : w64 (heldI x 0 1000000000 + c.b) = _ := w64_id (by omega) (by omega); have h6 : w64 (heldI x 0 1000000000 + c.b) = 0 := h7; omega)) <| Gn [9, 10, 11, 12] [54, 55] <| Mr 3 (nt c.c) qhb1 <| Gn [11, 12] [57] <| Jq (pheld_spec (i64.wrap ((i64.wrap (Int.tdiv (i64.wrap (c.a * 1000000000)) (i64.wrap ((heldI x 0 1000000000) + c.b)))) - c.c)) 0 1000000000 _) <| Gn [] [4] <| GI_end <| X_then <| V_ret <| X_ret_block <| X_ret_then <| Xr (nt (heldI (i64.wrap ((i64.wrap (Int.tdiv (i64.wrap (c.a * 1000000000)) (i64.wrap ((heldI x 0 1000000000) + c.b)))) - c.c)) 0 1000000000)) ⟨by unfold atI; rw [if_neg hc4, if_neg hc12, if_pos hc19], hK0⟩
 exact V_skip <| X_block <| X_then <| Vn [4] <| Rr (nt 0) ⟨by unfold atI; rw [if_neg hc4, if_neg hc12, if_neg hc19], hK0⟩
end Go.Al
namespace Go.Al
open Go Go.RowKit Go.Proofs
theorem trkIs_spec (x : Trk) (w : World) : Calls Tryz.prog 80 #[.agg x.cells.toArray] w fun e w' => e = .returned (.bool (decide (okTrk x))) ∧ Keep none_ w w' := by
 have hK0 := Keep.refl none_ w
 refine eV ?_
 refine Vr <| OI_box 27 (.tmp 0) (.agg (Trk.cells x).toArray) (Trk.cells x) (some 1) (by kernel_rfl) (by kernel_rfl) rfl ?_
 intro b1 w1 e1 hb1 k1 z1
 have hsz2 := Keep.size k1
 replace hK0 := hK0.tn k1
 have hb1lt := hb1.lt
 refine On 2 [1] <| Oer <| On 1 [1, 3] <| Lr 0 (nt x.most) hb1 <| Kq (tIn_spec x.most 1 12 _) <| On 4 [1, 6] ?_
 by_cases hg6 : (1 : Int) ≤ x.most ∧ x.most ≤ 12
 ·
  refine Dt 6 hg6 <| On 5 [1, 6, 7] <| Lr 1 (nt x.deposit) hb1 <| Kq (tIn_spec x.deposit 0 1073741824 _) <| On 9 [1, 11] ?_
  by_cases hg10 : (0 : Int) ≤ x.deposit ∧ x.deposit ≤ 1073741824
  ·
   refine Dt 11 hg10 <| On 10 [1, 11, 12] <| Lr 16 (nt x.cap) hb1 <| Kq (tIn_spec x.cap 0 1073741824 _) <| On 14 [1, 16] ?_
   by_cases hg14 : (0 : Int) ≤ x.cap ∧ x.cap ≤ 1073741824
   ·
    refine Dt 16 hg14 <| On 15 [1, 16, 17] <| Lr 2 (nt x.prepare) hb1 <| Kq (tIn_spec x.prepare 0 1000 _) <| On 19 [1, 21] ?_
    by_cases hg18 : (0 : Int) ≤ x.prepare ∧ x.prepare ≤ 1000
    ·
     refine Dt 21 hg18 <| On 20 [1, 21, 22] <| Lr 4 (nt x.confirm) hb1 <| Kq (tIn_spec x.confirm 0 1000 _) <| On 24 [1, 26] ?_
     by_cases hg22 : (0 : Int) ≤ x.confirm ∧ x.confirm ≤ 1000
     ·
      refine Dt 26 hg22 <| On 25 [1, 26, 27] <| Lr 5 (nt x.enact) hb1 <| Kq (tIn_spec x.enact 0 1000 _) <| On 29 [1, 31] ?_
      by_cases hg26 : (0 : Int) ≤ x.enact ∧ x.enact ≤ 1000
      ·
       refine Dt 31 hg26 <| On 30 [1, 31, 32] <| Lr 3 (nt x.decision) hb1 <| Kq (tIn_spec x.decision 1 1000 _) <| On 34 [1, 36] ?_
       by_cases hg30 : (1 : Int) ≤ x.decision ∧ x.decision ≤ 1000
       ·
        refine Dt 36 hg30 <| On 35 [1, 36, 37] <| La 6 (Crv.cells x.app) 5 hb1 rfl rfl <| Kk (perIs_spec x.app _) fun w31 hk32 _ => ?_
        replace hb1 := hb1.k0 hk32
        replace hK0 := hK0.tn hk32
        refine On 39 [1, 41] ?_
        by_cases hg34 : okCrv x.app
        ·
         refine Dt 41 hg34 <| On 40 [1, 41, 42] <| La 11 (Crv.cells x.sup) 5 hb1 rfl rfl <| Kk (perIs_spec x.sup _) fun w35 hk36 _ => ?_
         replace hb1 := hb1.k0 hk36
         replace hK0 := hK0.tn hk36
         refine On 44 [1, 46] ?_
         by_cases hg38 : okCrv x.sup
         ·
          exact Dt 46 hg38 <| On 45 [46, 47] <| Lr 17 (nt x.rank) hb1 <| Kq (tIn_spec x.rank 0 2 _) <| Oen [2] <| Rr (.bool (decide ((0 : Int) ≤ x.rank ∧ x.rank ≤ 2))) ⟨by congr 2; first | (apply Eq.symm; (try simp only [decide_eq_true_eq]); (try simp only [decide_eq_false_iff_not]); unfold okTrk; simp_all <;> omega) | (rw [decide_eq_decide]; unfold okTrk; simp_all <;> omega), hK0⟩
         exact Df 46 hg38 <| Oen [2] <| Rr (.bool false) ⟨by congr 2; first | (apply Eq.symm; (try simp only [decide_eq_true_eq]); (try simp only [decide_eq_false_iff_not]); unfold okTrk; simp_all <;> omega) | (rw [decide_eq_decide]; unfold okTrk; simp_all <;> omega), hK0⟩
        exact Df 41 hg34 <| Oen [2] <| Rr (.bool false) ⟨by congr 2; first | (apply Eq.symm; (try simp only [decide_eq_true_eq]); (try simp only [decide_eq_false_iff_not]); unfold okTrk; simp_all <;> omega) | (rw [decide_eq_decide]; unfold okTrk; simp_all <;> omega), hK0⟩
       exact Df 36 hg30 <| Oen [2] <| Rr (.bool false) ⟨by congr 2; first | (apply Eq.symm; (try simp only [decide_eq_true_eq]); (try simp only [decide_eq_false_iff_not]); unfold okTrk; simp_all <;> omega) | (rw [decide_eq_decide]; unfold okTrk; simp_all <;> omega), hK0⟩
      exact Df 31 hg26 <| Oen [2] <| Rr (.bool false) ⟨by congr 2; first | (apply Eq.symm; (try simp only [decide_eq_true_eq]); (try simp only [decide_eq_false_iff_not]); unfold okTrk; simp_all <;> omega) | (rw [decide_eq_decide]; unfold okTrk; simp_all <;> omega), hK0⟩
     exact Df 26 hg22 <| Oen [2] <| Rr (.bool false) ⟨by congr 2; first | (apply Eq.symm; (try simp only [decide_eq_true_eq]); (try simp only [decide_eq_false_iff_not]); unfold okTrk; simp_all <;> omega) | (rw [decide_eq_decide]; unfold okTrk; simp_all <;> omega), hK0⟩
    exact Df 21 hg18 <| Oen [2] <| Rr (.bool false) ⟨by congr 2; first | (apply Eq.symm; (try simp only [decide_eq_true_eq]); (try simp only [decide_eq_false_iff_not]); unfold okTrk; simp_all <;> omega) | (rw [decide_eq_decide]; unfold okTrk; simp_all <;> omega), hK0⟩
   exact Df 16 hg14 <| Oen [2] <| Rr (.bool false) ⟨by congr 2; first | (apply Eq.symm; (try simp only [decide_eq_true_eq]); (try simp only [decide_eq_false_iff_not]); unfold okTrk; simp_all <;> omega) | (rw [decide_eq_decide]; unfold okTrk; simp_all <;> omega), hK0⟩
  exact Df 11 hg10 <| Oen [2] <| Rr (.bool false) ⟨by congr 2; first | (apply Eq.symm; (try simp only [decide_eq_true_eq]); (try simp only [decide_eq_false_iff_not]); unfold okTrk; simp_all <;> omega) | (rw [decide_eq_decide]; unfold okTrk; simp_all <;> omega), hK0⟩
 exact Df 6 hg6 <| Oen [2] <| Rr (.bool false) ⟨by congr 2; first | (apply Eq.symm; (try simp only [decide_eq_true_eq]); (try simp only [decide_eq_false_iff_not]); unfold okTrk; simp_all <;> omega) | (rw [decide_eq_decide]; unfold okTrk; simp_all <;> omega), hK0⟩
theorem shares_spec (y : Tly) (iss : Int) (w : World) : Calls Tryz.prog 154 #[.agg y.cells.toArray, nt iss] w fun e w' => e = .returned (.tuple #[nt (apprI y), nt (ratioI y.s iss)]) ∧ Keep none_ w w' := by
 have hK0 := Keep.refl none_ w
 refine eV ?_
 refine Vr <| OI_box 55 (.tmp 0) (.agg (Tly.cells y).toArray) (Tly.cells y) (some 2) (by kernel_rfl) (by kernel_rfl) rfl ?_
 intro b1 w1 e1 hb1 k1 z1
 have hsz2 := Keep.size k1
 replace hK0 := hK0.tn k1
 have hb1lt := hb1.lt
 refine Oen [1, 2] <| V_seq <| Vd1 (acts [7, 11]) none_ [0, 1, 2, 3, 4, 5, 6, 7, 8, 9, 10, 11, 12, 13] fun w4 hk3 he5 K8 _ => ?_
 replace hb1 := hb1.k0 hk3
 replace hK0 := hK0.tn hk3
 have qhb1 := hb1
 refine Gn [1, 2, 3, 4, 5, 6, 7, 8, 9, 10, 11, 12, 13] [1, 2, 6] <| Mr 0 (nt y.a) qhb1 <| Gn [3, 4, 5, 6, 7, 8, 9, 10, 11, 12, 13] [1, 2, 7, 8] <| Mr 0 (nt y.a) qhb1 <| Gn [5, 6, 7, 8, 9, 10, 11, 12, 13] [1, 2, 7, 9, 10] <| Mr 1 (nt y.n) qhb1 <| Gn [7, 8, 9, 10, 11, 12, 13] [1, 2, 7, 12] <| Hq K8 (ratio_spec y.a (i64.wrap (y.a + y.n)) _) <| Gn [9, 10, 11, 12, 13] [1, 13, 14] <| Mr 2 (nt y.s) qhb1 <| Gn [11, 12, 13] [13, 15, 16] <| Jq (ratio_spec y.s iss _) <| Gs [] [(4, nt (ratioI y.a (i64.wrap (y.a + y.n)))),(5, nt (ratioI y.s iss))] <| GI_end <| X_then <| V_ret ?_
 exact X_return _ rfl ⟨rfl, hK0⟩
theorem passing_spec (x : Trk) (y : Tly) (iss el : Int) (w : World) (ha : okCrv x.app) (hs : okCrv x.sup) : Calls Tryz.prog 104 #[.agg x.cells.toArray, .agg y.cells.toArray, nt iss, nt el] w fun e w' => e = .returned (.bool (passB x y iss el)) ∧ Keep none_ w w' := by
 have hK0 := Keep.refl none_ w
 refine eV ?_
 refine Vr <| OI_box 27 (.tmp 0) (.agg (Trk.cells x).toArray) (Trk.cells x) (some 4) (by kernel_rfl) (by kernel_rfl) rfl ?_
 intro b1 w1 e1 hb1 k1 z1
 have hsz2 := Keep.size k1
 replace hK0 := hK0.tn k1
 have hb1lt := hb1.lt
 refine OI_box 55 (.tmp 1) (.agg (Tly.cells y).toArray) (Tly.cells y) (some 5) (by kernel_rfl) (by kernel_rfl) rfl ?_
 intro b3 w3 e3 hb3 k3 z3
 have hsz4 := Keep.size k3
 replace hb1 := hb1.k0 k3
 replace hK0 := hK0.tn k3
 have hb3lt := hb3.lt
 refine On 3 [2, 3, 4, 5] <| Oer <| On 2 [2, 4, 5, 12, 13] <| Lr 3 (nt x.decision) hb1 <| On 5 [2, 4, 5, 15, 16] <| Lr 3 (nt x.decision) hb1 <| Kq (ratio_spec (imin el x.decision) x.decision _) <| On 8 [2, 4, 5, 9] <| Oer <| La 0 (Tly.cells y) 3 hb3 (take_all (Tly.len _)) (Tly.len _) <| On 2 [4, 9, 20, 21] <| Kk (shares_spec y iss _) fun w8 hk9 _ => ?_
 replace hb1 := hb1.k0 hk9
 replace hK0 := hK0.tn hk9
 refine On 8 [4, 9, 10, 11] <| Oer <| On 2 [4, 9, 11, 25, 26] <| La 6 (Crv.cells x.app) 5 hb1 rfl rfl <| On 4 [4, 9, 11, 25, 27, 28] <| Kk (perAt_spec x.app (ratioI (imin el x.decision) x.decision) _ ha) fun w11 hk12 _ => ?_
 replace hb1 := hb1.k0 hk12
 replace hK0 := hK0.tn hk12
 refine On 7 [4, 9, 11, 31] ?_
 by_cases hg14 : apprI y ≥ atI x.app (ratioI (imin el x.decision) x.decision)
 ·
  refine Dt 31 hg14 <| On 9 [9, 31, 32, 33] <| La 11 (Crv.cells x.sup) 5 hb1 rfl rfl <| On 11 [31, 32, 34, 35] <| Kk (perAt_spec x.sup (ratioI (imin el x.decision) x.decision) _ hs) fun w15 hk16 _ => ?_
  replace hK0 := hK0.tn hk16
  exact Oen [8] <| Rr (.bool (decide (ratioI y.s iss ≥ atI x.sup (ratioI (imin el x.decision) x.decision)))) ⟨by unfold passB; simp [*], hK0⟩
 exact Df 31 hg14 <| Oen [8] <| Rr (.bool false) ⟨by unfold passB; simp [*], hK0⟩
end Go.Al
namespace Go.Al
open Go Go.RowKit Go.Proofs
def cellsQ : Nat → List Rfm → List GQ.Ci
  | _, [] => []
  | i, x :: l => ⟨0, (i : Int), x⟩ :: cellsQ (i + 1) l
def zipQ : Nat → List Rfm → List (Int × Rfm)
  | _, [] => []
  | i, x :: l => ((i : Int), x) :: zipQ (i + 1) l
theorem cellsQ_len : ∀ (i : Nat) (l : List Rfm),(cellsQ i l).length = l.length
  | _, [] => rfl
  | i, x :: l => by simp only [cellsQ, List.length_cons, cellsQ_len]
theorem zipQ_len : ∀ (i : Nat) (l : List Rfm),(zipQ i l).length = l.length
  | _, [] => rfl
  | i, x :: l => by simp only [zipQ, List.length_cons, zipQ_len]
theorem zipQ_at : ∀ (l : List Rfm) (i k : Nat) (x : Rfm), l[k]? = some x → (zipQ i l)[k]? = some (((i + k : Nat) : Int), x)
  | [], _, _, _, h => by cases h
  | y :: l, i, 0, x, h => by simp only [List.getElem?_cons_zero, Option.some.injEq] at h; subst h; rfl
  | y :: l, i, k + 1, x, h => by
    simp only [zipQ, List.getElem?_cons_succ] at h ⊢
    rw [zipQ_at l (i + 1) k x h]
    congr 2; omega
theorem rowQ : ∀ (i : Nat) (l : List Rfm), GQ.rowL 0 (cellsQ i l) = zipQ i l
  | _, [] => rfl
  | i, x :: l => by
    have := rowQ (i + 1) l
    unfold GQ.rowL at this ⊢
    simp only [cellsQ, zipQ, List.filter_cons, beq_self_eq_true, if_true, List.map_cons, this]
theorem getQ : ∀ (l : List Rfm) (i : Nat) (ref : Int), GQ.getC 0 ref (cellsQ i l) = if (i : Int) ≤ ref then l[(ref - i).toNat]? else none
  | [], i, ref => by simp [cellsQ, GQ.getC]
  | x :: l, i, ref => by
    simp only [cellsQ, GQ.getC, true_and]
    by_cases h : (i : Int) = ref
    · rw [if_pos h, if_pos (by omega), show (ref - i).toNat = 0 by omega]; rfl
    · rw [if_neg h, getQ l (i + 1) ref]
      by_cases h2 : (i : Int) ≤ ref
      · rw [if_pos (by omega), if_pos h2, show (ref - (i : Int)).toNat = (ref - ((i + 1 : Nat) : Int)).toNat + 1 by omega, List.getElem?_cons_succ]
      · rw [if_neg (by omega), if_neg h2]
theorem getQ0 (l : List Rfm) (ref : Int) : GQ.getC 0 ref (cellsQ 0 l) = getR l ref := by
  rw [getQ]; unfold getR
  by_cases h : 0 ≤ ref
  · by_cases h2 : ref < l.length
    · rw [if_pos (by omega), if_pos ⟨h, h2⟩]; congr 1; omega
    · rw [if_pos (by omega), if_neg (by omega), List.getElem?_eq_none (by omega)]
  · rw [if_neg (by omega), if_neg (by omega)]
theorem setQ (x : Rfm) : ∀ (l : List Rfm) (i j : Nat), j < l.length → GQ.setC 0 ((i + j : Nat) : Int) x (cellsQ i l) = cellsQ i (l.set j x)
  | [], _, _, h => by simp at h
  | y :: l, i, 0, _ => by
    simp only [cellsQ, GQ.setC, List.set_cons_zero]
    rw [if_pos ⟨trivial, by omega⟩, show ((i + 0 : Nat) : Int) = i by omega]
  | y :: l, i, j + 1, h => by
    simp only [cellsQ, GQ.setC, List.set_cons_succ]
    rw [if_neg (by omega), if_pos (.inr ⟨rfl, by show (i : Int) < _; omega⟩), show ((i + (j + 1) : Nat) : Int) = ((i + 1 + j : Nat) : Int) by omega, setQ x l (i + 1) j (by simpa using h)]
theorem setQ_new (x : Rfm) : ∀ (l : List Rfm) (i : Nat), GQ.setC 0 ((i + l.length : Nat) : Int) x (cellsQ i l) = cellsQ i (l ++ [x])
  | [], i => rfl
  | y :: l, i => by
    simp only [cellsQ, GQ.setC, List.cons_append, List.length_cons]
    rw [if_neg (by omega), if_pos (.inr ⟨rfl, by show (i : Int) < _; omega⟩), show ((i + (l.length + 1) : Nat) : Int) = ((i + 1 + l.length : Nat) : Int) by omega, setQ_new x l (i + 1)]
structure RfIn (ts : List Trk) (rs : List Rfm) : Prop where
  tl : ts.length ≤ 4
  tok : ∀ t ∈ ts, okTrk t
  rl : rs.length ≤ 12
  rtk : ∀ x ∈ rs, 0 ≤ x.track ∧ x.track < ts.length
structure RfrX (D : Nat → Prop) (A : Option Addr) (cap : Nat) (w : World) (r g : Nat) (ts : List Trk) (rs : List Rfm) : Prop where
  blk : Blk w r [.slice A ts.length cap, pt g] 97
  sl : SlT w 18 Trk.cells A cap ts
  grd : GQ.Grd D w g (cellsQ 0 rs)
  dA : ∀ q, inA A q → ¬ D q
  rA : ∀ q, inA A q → q ≠ r
  rD : ∀ q, D q → q ≠ r
def Rfr (F : Nat → Prop) (w : World) (r g : Nat) (ts : List Trk) (rs : List Rfm) : Prop := RfIn ts rs ∧ (∀ q, F q → q < w.heap.size) ∧ ∃ D A cap, RfrX D A cap w r g ts rs ∧ F r ∧ (∀ q, D q → F q) ∧ (∀ q, inA A q → F q)
section
variable {F S : Nat → Prop} {w w' : World} {r g N : Nat} {ts : List Trk} {rs : List Rfm}
theorem Rfr.lt (h : Rfr F w r g ts rs) : ∀ q, F q → q < w.heap.size := h.2.1
theorem Rfr.inn (h : Rfr F w r g ts rs) : RfIn ts rs := h.1
theorem Rfr.at_ (h : Rfr F w r g ts rs) : F r := by obtain ⟨_, _, _, _, _, _, h, _⟩ := h; exact h
theorem Rfr.atg (h : Rfr F w r g ts rs) : F g := by obtain ⟨_, _, _, _, _, h, _, h2, _⟩ := h; exact h2 _ h.grd.at_
theorem Rfr.keep (h : Rfr F w r g ts rs) (k : Keep S w w') (hS : ∀ q, F q → ¬ S q) : Rfr F w' r g ts rs := by
  obtain ⟨h0, h1, D, A, cap, h2, h3, h4, h5⟩ := h
  exact ⟨h0, fun q hq => Nat.lt_of_lt_of_le (h1 q hq) k.size, D, A, cap, ⟨h2.blk.keep k (hS _ h3), h2.sl.keep k (fun q hq => hS q (h5 q hq)), h2.grd.keep k (fun q hq => hS q (h4 q hq)), h2.dA, h2.rA, h2.rD⟩, h3, h4, h5⟩
theorem Rfr.quiet (h : Rfr F w r g ts rs) (k : Keep (lb N w) w w') : Rfr F w' r g ts rs := by
  obtain ⟨h0, h1, D, A, cap, h2, h3, h4, h5⟩ := h
  exact ⟨h0, fun q hq => Nat.lt_of_lt_of_le (h1 q hq) k.size, D, A, cap, ⟨h2.blk.quiet k, h2.sl.quiet k, h2.grd.quiet k, h2.dA, h2.rA, h2.rD⟩, h3, h4, h5⟩
theorem Rfr.grq (h : Rfr F w r g ts rs) : ∃ D, GQ.Grd D w g (cellsQ 0 rs) := by obtain ⟨_, _, D, _, _, h, _⟩ := h; exact ⟨D, h.grd⟩
theorem Rfr.grqF (h : Rfr F w r g ts rs) : ∃ D, GQ.Grd D w g (cellsQ 0 rs) ∧ ∀ q, D q → F q := by obtain ⟨_, _, D, _, _, h, _, h2, _⟩ := h; exact ⟨D, h.grd, h2⟩
theorem Rfr.parts (h : Rfr F w r g ts rs) : ∃ A cap, Blk w r [.slice A ts.length cap, pt g] 97 ∧ SlT w 18 Trk.cells A cap ts ∧ (∀ q, inA A q → F q ∧ q ≠ r ∧ q ≠ g) ∧ r ≠ g := by
  obtain ⟨h0, h1, D, A, cap, h2, h3, h4, h5⟩ := h
  exact ⟨A, cap, h2.blk, h2.sl, fun q hq => ⟨h5 q hq, h2.rA q hq, fun e => h2.dA q hq (e ▸ h2.grd.at_)⟩, fun e => h2.rD _ h2.grd.at_ e.symm⟩
end
theorem setQ_grdO {F : Nat → Prop} {g : Nat} {cs : List GQ.Ci} {a b : Int} {x : Rfm} {w : World} (h : GQ.Grd F w g cs) (hmax : cs.length < 100000) : Calls Tryz.prog 45 #[pt g, nt a, nt b, .agg (Rfm.cells x).toArray] w fun e w' => e = .returned (.tuple #[]) ∧ (∃ F', GQ.Grd F' w' g (GQ.setC a b x cs) ∧ (∀ q, F' q → F q ∨ w.heap.size ≤ q)) ∧ Keep (only g) w w' :=
  (GQ.set_spec (fun q => F q ∨ w.heap.size ≤ q) g cs a b x w (h.gr.mono (fun _ h => .inl h)) (fun _ h => .inr h) hmax).mono (by
    rintro e w' ⟨rfl, h1, h2⟩
    exact ⟨rfl, ⟨GQ.more F w w', GQ.Grd.of h1 (.inl h.at_) (fun q hq hD => hD.imp id (fun h => ⟨h, hq⟩)) (fun q hq => by rcases hq with hq | hq; exact Nat.lt_of_lt_of_le (h.lt q hq) h2.size; exact hq.2), fun q hq => hq.imp id (·.1)⟩, h2⟩)
theorem Rfr.turn {F : Nat → Prop} {w w' : World} {r g : Nat} {ts : List Trk} {rs rs' : List Rfm} {D D' : Nat → Prop} {A : Option Addr} {cap : Nat} (h1 : ∀ q, F q → q < w.heap.size) (h2 : RfrX D A cap w r g ts rs) (h3 : F r) (h4 : ∀ q, D q → F q) (h5 : ∀ q, inA A q → F q)
    (k : Keep (only g) w w') (hin : RfIn ts rs') (hG : GQ.Grd D' w' g (cellsQ 0 rs')) (hfr : ∀ q, D' q → D q ∨ w.heap.size ≤ q) : (∃ F', Rfr F' w' r g ts rs' ∧ ∀ q, F' q → F q ∨ w.heap.size ≤ q) := by
  have hg := h2.grd.at_
  refine ⟨fun q => F q ∨ D' q, ⟨hin, fun q hq => ?_, D', A, cap, ⟨h2.blk.keep k (fun e => h2.rD _ hg (show r = g from e).symm), h2.sl.keep k (fun q hq e => h2.dA q hq (by rw [show q = g from e]; exact hg)), hG, fun q hq hd => ?_, h2.rA, fun q hq e => ?_⟩, .inl h3, fun q hq => .inr hq, fun q hq => .inl (h5 q hq)⟩, ?_⟩
  · rcases hq with hq | hq
    · exact Nat.lt_of_lt_of_le (h1 q hq) k.size
    · exact hG.lt q hq
  · rcases hfr q hd with hd | hd
    · exact h2.dA q hq hd
    · have := h1 q (h5 q hq); omega
  · rcases hfr q hq with hd | hd
    · exact h2.rD q hd e
    · have := h1 r h3; omega
  · rintro q (hq | hq)
    · exact .inl hq
    · exact (hfr q hq).imp (h4 q) id
theorem rset_spec (F : Nat → Prop) (r g : Nat) (ts : List Trk) (rs : List Rfm) (ref : Int) (x : Rfm) (w : World) (h : Rfr F w r g ts rs) (hj : 0 ≤ ref ∧ ref < rs.length) (ht : 0 ≤ x.track ∧ x.track < ts.length) : Calls Tryz.prog 45 #[pt g, nt 0, nt ref, .agg (Rfm.cells x).toArray] w fun e w' => e = .returned (.tuple #[]) ∧ (∃ F', Rfr F' w' r g ts (rs.set ref.toNat x) ∧ (∀ q, F' q → F q ∨ w.heap.size ≤ q)) ∧ Keep (only g) w w' := by
  obtain ⟨h0, h1, D, A, cap, h2, h3, h4, h5⟩ := h
  have hrl := h0.rl
  refine (setQ_grdO (a := 0) (b := ref) (x := x) h2.grd (by rw [cellsQ_len]; omega)).mono ?_
  rintro e w' ⟨rfl, ⟨D', hG, hfr⟩, hk⟩
  obtain ⟨j, rfl⟩ : ∃ j : Nat, ref = j := ⟨ref.toNat, by omega⟩
  have e1 := setQ x rs 0 j (by omega)
  rw [Nat.zero_add] at e1
  rw [e1] at hG
  refine ⟨rfl, Rfr.turn h1 h2 h3 h4 h5 hk ⟨h0.tl, h0.tok, by rw [List.length_set]; exact hrl, fun y hy => ?_⟩ hG hfr, hk⟩
  rcases List.mem_or_eq_of_mem_set hy with hy | rfl
  · exact h0.rtk y hy
  · exact ht
theorem rnew_spec (F : Nat → Prop) (r g : Nat) (ts : List Trk) (rs : List Rfm) (x : Rfm) (w : World) (h : Rfr F w r g ts rs) (hj : rs.length < 12) (ht : 0 ≤ x.track ∧ x.track < ts.length) : Calls Tryz.prog 45 #[pt g, nt 0, nt (rs.length : Int), .agg (Rfm.cells x).toArray] w fun e w' => e = .returned (.tuple #[]) ∧ (∃ F', Rfr F' w' r g ts (rs ++ [x]) ∧ (∀ q, F' q → F q ∨ w.heap.size ≤ q)) ∧ Keep (only g) w w' := by
  obtain ⟨h0, h1, D, A, cap, h2, h3, h4, h5⟩ := h
  refine (setQ_grdO (a := 0) (b := (rs.length : Int)) (x := x) h2.grd (by rw [cellsQ_len]; omega)).mono ?_
  rintro e w' ⟨rfl, ⟨D', hG, hfr⟩, hk⟩
  have e1 := setQ_new x rs 0
  rw [Nat.zero_add] at e1
  rw [e1] at hG
  refine ⟨rfl, Rfr.turn h1 h2 h3 h4 h5 hk ⟨h0.tl, h0.tok, by simp; omega, fun y hy => ?_⟩ hG hfr, hk⟩
  rcases List.mem_append.1 hy with hy | hy
  · exact h0.rtk y hy
  · rw [List.mem_singleton.1 hy]; exact ht
theorem qlen_spec (F : Nat → Prop) (r g : Nat) (ts : List Trk) (rs : List Rfm) (w : World) (h : Rfr F w r g ts rs) : Calls Tryz.prog 41 #[pt g] w fun e w' => e = .returned (nt (rs.length : Int)) ∧ w' = w := by
  obtain ⟨D, h⟩ := h.grq
  have := GQ.len_spec D g (cellsQ 0 rs) w h.gr
  rw [cellsQ_len] at this; exact this
theorem qget_spec (F : Nat → Prop) (r g : Nat) (ts : List Trk) (rs : List Rfm) (ref : Int) (w : World) (h : Rfr F w r g ts rs) : Calls Tryz.prog 53 #[pt g, nt 0, nt ref] w fun e w' => e = .returned (.tuple #[.agg (getA rs ref).cells.toArray, .bool (getR rs ref).isSome]) ∧ Keep none_ w w' := by
  obtain ⟨D, h⟩ := h.grq
  have := GQ.get_spec D g (cellsQ 0 rs) 0 ref w h.gr
  rw [getQ0] at this; exact this
theorem getA_in {rs : List Rfm} {ts : List Trk} (h : RfIn ts rs) {ref : Int} {x : Rfm} (hx : getR rs ref = some x) : (0 ≤ ref ∧ ref < rs.length) ∧ (0 ≤ x.track ∧ x.track < ts.length) ∧ rs[ref.toNat]? = some x ∧ getA rs ref = x := by
  have hx0 := hx
  unfold getR at hx
  split at hx
  · rename_i hr
    exact ⟨hr, h.rtk x (List.mem_of_getElem? hx), hx, by unfold getA; rw [hx0]; rfl⟩
  · cases hx
theorem trkA_at {ts : List Trk} {i : Int} (h : 0 ≤ i ∧ i < ts.length) : ∃ j : Nat, i = (j : Int) ∧ j < ts.length ∧ ts[j]? = some (trkA ts i) ∧ trkA ts i ∈ ts := by
  obtain ⟨j, rfl⟩ : ∃ j : Nat, i = j := ⟨i.toNat, by omega⟩
  have hj : j < ts.length := by omega
  have e : trkA ts (j : Int) = ts[j] := by unfold trkA trkO; rw [if_pos h, Int.toNat_natCast, List.getElem?_eq_getElem hj]; rfl
  exact ⟨j, rfl, hj, by rw [e, List.getElem?_eq_getElem hj], by rw [e]; exact List.getElem_mem hj⟩
end Go.Al
namespace Go.Al
open Go Go.RowKit Go.Proofs
variable {key : Int → Int} {x y : Int}
theorem sink_at {A1 A2 R ys : List Int} {j : Nat} (h : ys = A2.reverse ++ x :: (A1.reverse ++ R)) (hj : j = A2.length) : ys[j]? = some x := by
  subst h hj
  rw [List.getElem?_append_right (by simp)]; simp
theorem sink_prev {A1 A2 R ys : List Int} {j : Nat} (h : ys = A2.reverse ++ x :: (A1.reverse ++ R)) (hj : j = A2.length) (h0 : 0 < j) (hy : ys[j - 1]? = some y) : ∃ B, A2 = y :: B ∧ (ys.set j y).set (j - 1) x = B.reverse ++ x :: ((A1 ++ [y]).reverse ++ R) := by
  subst h hj
  cases A2 with
  | nil => simp at h0
  | cons z B =>
    have hb : B.reverse.length = B.length := List.length_reverse
    have e1 : (z :: B).length - 1 = B.reverse.length := by simp
    have e2 : (z :: B).length = B.reverse.length + 1 := by simp
    rw [e1, List.reverse_cons, List.append_assoc, List.getElem?_append_right (Nat.le_refl _), Nat.sub_self] at hy
    simp only [List.singleton_append, List.getElem?_cons_zero, Option.some.injEq] at hy
    subst hy
    refine ⟨B, rfl, ?_⟩
    rw [e1, e2, List.reverse_cons, List.append_assoc, List.set_append_right _ _ (by omega), Nat.add_sub_cancel_left]
    simp only [List.singleton_append, List.set_cons_succ, List.set_cons_zero]
    rw [List.set_append_right _ _ (by omega), Nat.sub_self]
    simp only [List.set_cons_zero, List.reverse_append, List.reverse_cons, List.reverse_nil, List.nil_append, List.cons_append]
theorem sink_go {B : List Int} (h : key x > key y) : sink key x (y :: B) = y :: sink key x B := by simp only [sink]; rw [if_pos h]
theorem sink_stop {B : List Int} (h : ¬ key x > key y) : sink key x (y :: B) = x :: y :: B := by simp only [sink]; rw [if_neg h]
theorem cmpI_neg {a b : Int} : cmpI a b < 0 ↔ a < b := by
  unfold cmpI
  split
  · simp [*]
  · split <;> simp_all
theorem sinks_step {xs : List Int} {i : Nat} (h : xs[i]? = some x) : (xs.take (i + 1)).foldl (fun acc x => sink key x acc) [] = sink key x ((xs.take i).foldl (fun acc x => sink key x acc) []) ∧ xs.drop i = x :: xs.drop (i + 1) := by
  obtain ⟨h1, rfl⟩ := List.getElem?_eq_some_iff.1 h
  refine ⟨?_, List.drop_eq_getElem_cons h1⟩
  rw [List.take_succ_eq_append_getElem h1, List.foldl_append]; rfl
theorem isort_at (b o cap F : Nat) (cv : Value) (L : List Value) (T : TypeId) (xs : List Int) (key : Int → Int) (w : World) (h : At w b o L T 1 cap (xs.map intc)) (hn : xs.length ≤ 19) (h1 : 0 < xs.length) (hb : bodied Tryz.prog F = true) (hF : ∀ x y w1, Keep (only b) w w1 → Calls Tryz.prog F #[nt x, nt y, cv] w1 fun e w' => e = .returned (nt (cmpI (key y) (key x))) ∧ Keep none_ w1 w') : Calls Tryz.prog 203 #[sl_ b o xs.length cap, nt 0, nt (xs.length : Int), .func (.func F) #[] #[cv]] w fun e w' => e = .returned (.tuple #[]) ∧ SlT w' 1 intc (some ⟨b, o, none⟩) cap (sortD key xs) ∧ Keep (only b) w w' := by
 have hblt := h.blk.lt
 obtain ⟨x0, xt, hx0⟩ : ∃ x0 xt, xs = x0 :: xt := by cases xs with
  | nil => simp at h1
  | cons x0 xt => exact ⟨x0, xt, rfl⟩
 have hK0 : Keep (only b) w w := Keep.refl _ _
 refine eV ?_
 refine Vn [0, 1, 2, 3, 8] <| V_block <| Vp [(0, sl_ b o xs.length cap),(1, nt 0),(2, nt (xs.length : Int)),(3, .func (.func F) #[] #[cv]),(8, nt 1)] <| V_loop (fun k wI e => ∃ i : Nat, ∃ acc : List Int, ∃ ys : List Int, ∃ Lx : List Value, (k + i = xs.length) ∧ (i ≤ xs.length) ∧ (acc = (xs.take i).foldl (fun acc x => sink key x acc) []) ∧ (acc.length = i) ∧ (ys = acc.reverse ++ xs.drop i) ∧ (At wI b o Lx T 1 cap (ys.map intc)) ∧ Keep (only b) w wI ∧ e = [(0, sl_ b o xs.length cap),(1, nt 0),(2, nt (xs.length : Int)),(3, .func (.func F) #[] #[cv]),(8, nt (i : Int))]) (xs.length - 1) ⟨1, [x0], xs, L, by omega, by omega, by rw [hx0]; rfl, rfl, by rw [hx0]; rfl, h, Keep.refl _ _, rfl⟩ ?_
 rintro k2 w1 _ ⟨i, acc, ys, Lx, hki, hi, hso, hal, hys, hat, hk3, rfl⟩
 have hsz4 := Keep.size hk3
 replace hK0 := Keep.fr hK0 hk3
 have hzhk3 := Keep.size hk3
 have hyl : ys.length = xs.length := by rw [hys, List.length_append, List.length_reverse, hal, List.length_drop]; omega
 refine V_seq <| Vs [(0, sl_ b o xs.length cap),(1, nt 0),(2, nt (xs.length : Int)),(3, .func (.func F) #[] #[cv]),(8, nt (i : Int)),(14, .bool (decide ((i : Int) < (xs.length : Int))))] <| Vi ((i : Int) < (xs.length : Int)) (fun hc5 => ?_) (fun hc5 => ?_)
 ·
  refine Vsk <| V_seq <| V_block <| Vn [0, 1, 2, 3, 8, 9] <| V_block ?_
  obtain ⟨x, hx⟩ : ∃ x, xs[i]? = some x := ⟨_, List.getElem?_eq_getElem (by omega)⟩
  obtain ⟨hst1, hst2⟩ := sinks_step (key := key) hx
  have hzs0 : ys = acc.reverse ++ x :: (([] : List Int).reverse ++ xs.drop (i + 1)) := by rw [hys, hst2]; rfl
  refine Vp [(0, sl_ b o xs.length cap),(1, nt 0),(2, nt (xs.length : Int)),(3, .func (.func F) #[] #[cv]),(8, nt (i : Int)),(9, nt (i : Int))] <| V_loop (fun k wI e => ∃ j : Nat, ∃ A1 : List Int, ∃ A2 : List Int, ∃ zs : List Int, ∃ L2 : List Value, (k = j) ∧ (j = A2.length) ∧ (acc = A1 ++ A2) ∧ (sink key x acc = A1 ++ sink key x A2) ∧ (zs = A2.reverse ++ x :: (A1.reverse ++ xs.drop (i + 1))) ∧ (At wI b o L2 T 1 cap (zs.map intc)) ∧ Keep (only b) w1 wI ∧ e = [(0, sl_ b o xs.length cap),(1, nt 0),(2, nt (xs.length : Int)),(3, .func (.func F) #[] #[cv]),(8, nt (i : Int)),(9, nt (j : Int))]) i ⟨i, [], acc, ys, _, rfl, by omega, rfl, rfl, hzs0, hat, Keep.refl _ _, rfl⟩ ?_
  rintro k7 w6 _ ⟨j, A1, A2, zs, L2, hkj, hj, hac, hsk, hzs, hat2, hk8, rfl⟩
  have hsz9 := Keep.size hk8
  replace hK0 := Keep.fr hK0 hk8
  replace hk3 := Keep.fr hk3 hk8
  have hzhk8 := Keep.size hk8
  have hzl : zs.length = xs.length := by rw [hzs, ← hyl, hzs0, hac]; simp only [List.length_append, List.length_reverse, List.length_cons, List.length_nil, List.length_drop, List.reverse_append]; omega
  have hjl : j ≤ i := by have h9 := congrArg List.length hac; rw [List.length_append] at h9; omega
  have hzj := sink_at hzs hj
  refine V_seq <| V_seq <| Vd1 (acts [14]) none_ [0, 1, 2, 3, 4, 5, 6, 7, 8, 9, 10, 11, 12, 13, 14, 15, 16] fun w11 hk10 he12 K15 _ => ?_
  replace hat2 := hat2.keep hk10 id
  replace hK0 := hK0.tn hk10
  replace hk3 := hk3.tn hk10
  replace hk8 := hk8.tn hk10
  have qhat2 := hat2
  refine Gn [4, 5, 6, 7, 8, 9, 10, 11, 12, 13, 14, 15, 16] [0, 1, 2, 3, 8, 9, 21] ?_
  by_cases hg16 : (j : Int) > 0
  ·
   refine Et 21 hg16 <| Gn [7, 8, 9, 10, 11, 12, 13, 14, 15, 16] [0, 1, 2, 3, 8, 9, 21, 22, 23, 24] <| Gi (b := b) (o := o) (len := xs.length) (cap := cap) (j := j) 3 1 8 .i64 <| Mc0 (o + j * 1) (nt x) qhat2.blk (At.cell0 qhat2 (es_at hzj) rfl) ?_
   have hw17 : i64.wrap ((j : Int) - 1) = ((j - 1 : Nat) : Int) := wrp
   refine Gn [12, 13, 14, 15, 16] [0, 1, 2, 3, 8, 9, 21, 22, 23, 24, 25, 26, 27, 28, 29] <| Gq_ (u := nt (i64.wrap ((j : Int) - 1))) (v := nt ((j - 1 : Nat) : Int)) 29 (by rw [hw17]) <| Gi (b := b) (o := o) (len := xs.length) (cap := cap) (j := j - 1) 3 1 8 .i64 ?_
   obtain ⟨x18, hx19⟩ := exAt (xs := zs) (i := j - 1)
   refine Mc0 (o + (j - 1) * 1) (nt x18) qhat2.blk (At.cell0 qhat2 (es_at hx19) rfl) <| GI_call { callee := (Callee.value (Operand.tmp 22)), args := #[(Operand.tmp 26),(Operand.tmp 31)], argTypes := #[3, 3] } F #[nt x, nt x18, cv] (some 32) (by kernel_rfl) (by kernel_rfl) (by kernel_rfl) hb (hF x x18 _ hK0) ?_
   rintro _ w20 ⟨rfl, hk21⟩
   have K22 := K15.tr (Keep.ofNone hk21)
   refine ⟨_, rfl, K22, ?_⟩
   have hzK22 := Keep.size K22
   have hsz23 := Keep.size hk21
   replace hat2 := hat2.keep hk21 id
   replace hk3 := hk3.tn hk21
   replace hk8 := hk8.tn hk21
   refine Gn [] [0, 1, 2, 3, 8, 9, 22, 23, 24, 25, 26, 27, 28, 29, 30, 31, 32, 33, 34] <| GI_end <| X_then <| Vi (cmpI (key x18) (key x) < 0) (fun hc24 => ?_) (fun hc24 => ?_)
   ·
    refine Vsk <| V_seq <| V_block <| Vd (acts [9, 13, 15, 17]) (only b) [[5, 6, 7, 8, 9, 10, 11, 12, 13, 0, 1, 14, 15, 2, 3, 4, 16, 17], [10, 11, 12, 13, 5, 6, 7, 8, 9, 0, 1, 14, 15, 2, 3, 4, 16, 17]] ?_
    intro w26 hk25 he27 L hL28
    have hsz29 := Keep.size hk25
    replace hat2 := hat2.keep hk25 id
    replace hk8 := hk8.tn hk25
    have K30 : Keep (only b) w26 w26 := Keep.refl _ _
    simp only [List.mem_cons, List.not_mem_nil, or_false] at hL28
    rcases hL28 with rfl | rfl
    ·
     have hw31 : i64.wrap ((j : Int) - 1) = ((j - 1 : Nat) : Int) := wrp
     refine Gn [8, 9, 10, 11, 12, 13, 0, 1, 14, 15, 2, 3, 4, 16, 17] [0, 1, 2, 3, 8, 9, 22, 23, 24, 25, 26, 27, 28, 29, 30, 31, 32, 33, 42, 44] <| Gq_ (u := nt (i64.wrap ((j : Int) - 1))) (v := nt ((j - 1 : Nat) : Int)) 44 (by rw [hw31]) <| Gi (b := b) (o := o) (len := xs.length) (cap := cap) (j := j - 1) 3 1 8 .i64 <| GI_cellA 3 (.tmp 45) (o + (j - 1) * 1) (nt x18) (some 46) (by kernel_rfl) (by kernel_rfl) K30 (by kernel_rfl) hat2.blk (m := 1) (by kernel_rfl) (At.cell0 hat2 (es_at hx19) rfl) <| Gn [12, 13, 0, 1, 14, 15, 2, 3, 4, 16, 17] [0, 1, 2, 3, 8, 9, 22, 23, 24, 25, 26, 27, 28, 29, 30, 31, 32, 33, 46, 47, 48] <| Gi (b := b) (o := o) (len := xs.length) (cap := cap) (j := j) 3 1 8 .i64 <| GI_cellA 3 (.tmp 49) (o + j * 1) (nt x) (some 50) (by kernel_rfl) (by kernel_rfl) K30 (by kernel_rfl) hat2.blk (m := 1) (by kernel_rfl) (At.cell0 hat2 (es_at hzj) rfl) <| Gn [14, 15, 2, 3, 4, 16, 17] [0, 1, 2, 3, 8, 9, 22, 23, 24, 25, 26, 27, 28, 29, 30, 31, 32, 33, 37, 38, 46, 50] <| Gi (b := b) (o := o) (len := xs.length) (cap := cap) (j := j) 3 1 8 .i64 <| GI_set (m := 1) (kd := false) 3 (.tmp 51) (.tmp 46) (o + j * 1) (nt x18) [nt x18] none (by kernel_rfl) (by kernel_rfl) (by kernel_rfl) (by kernel_rfl) (At.blk hat2) (by kernel_rfl) (by kernel_rfl) rfl (by have h1 := At.room hat2; have h2 := At.le hat2; rw [List.length_map] at h2; omega) (by simp [Value.oneCell']) K30 (fun hh => rfl) ?_
     intro w32 hn33 hk34 hz35 K37
     obtain ⟨hat36, hlhx38, hx38⟩ := At.st1 (y := (x18 : Int)) (k := 0) hat2 hzj (by omega) (by simp [intc, over]) hn33
     have hsz39 := Keep.size hk34
     replace hk8 := Keep.fr hk8 hk34
     have hw40 : i64.wrap ((j : Int) - 1) = ((j - 1 : Nat) : Int) := wrp
     refine Gn [16, 17] [0, 1, 2, 3, 8, 9, 22, 23, 24, 25, 26, 27, 28, 29, 30, 31, 32, 33, 39, 41, 50] <| Gq_ (u := nt (i64.wrap ((j : Int) - 1))) (v := nt ((j - 1 : Nat) : Int)) 41 (by rw [hw40]) <| Gi (b := b) (o := o) (len := xs.length) (cap := cap) (j := j - 1) 3 1 8 .i64 <| GI_final 17 (by kernel_rfl) (by kernel_rfl) ?_
     obtain ⟨x41, hx42⟩ := exAt (xs := zs.set j x18) (i := j - 1)
     refine Ts1 (x : Int) 0 (nt x) hat36 hx42 (by simp [intc, over]) ?_
     intro w43 hat47 hk45 hz46 hlhx48 hx48
     have hsz49 := Keep.size hk45
     replace hk8 := Keep.fr hk8 hk45
     refine OI_end rfl <| X_block <| X_then <| V_region ?_
     have hw50 : i64.wrap ((j : Int) - 1) = ((j - 1 : Nat) : Int) := wrp
     refine On 2 [0, 1, 2, 3, 8, 22, 23, 24, 25, 26, 27, 28, 29, 30, 31, 32, 33, 36] <| Oq (u := nt (i64.wrap ((j : Int) - 1))) (v := nt ((j - 1 : Nat) : Int)) 36 (by rw [hw50]) <| Os 3 [(0, sl_ b o xs.length cap),(1, nt 0),(2, nt (xs.length : Int)),(3, .func (.func F) #[] #[cv]),(8, nt (i : Int)),(9, nt ((j - 1 : Nat) : Int)),(22, .func (.func F) #[] #[cv]),(23, sl_ b o xs.length cap),(24, nt (j : Int)),(25, .pointer (some ⟨b, o + j * 1, none⟩)),(26, nt x),(27, sl_ b o xs.length cap),(28, nt (j : Int)),(29, nt ((j - 1 : Nat) : Int)),(30, .pointer (some ⟨b, o + (j - 1) * 1, none⟩)),(31, nt x18),(32, nt (cmpI (key x18) (key x))),(33, .bool (decide (cmpI (key x18) (key x) < 0)))] <| OI_end rfl ?_
     obtain ⟨B, rfl, hzn⟩ := sink_prev hzs hj (by omega) hx19
     have hgo : key x > key x18 := cmpI_neg.1 hc24
     exact V_again (j - 1) (by omega) [(0, sl_ b o xs.length cap),(1, nt 0),(2, nt (xs.length : Int)),(3, .func (.func F) #[] #[cv]),(8, nt (i : Int)),(9, nt ((j - 1 : Nat) : Int))] rfl ⟨j - 1, A1 ++ [x18], B, _, _, by omega, by rw [hj]; simp, by rw [hac, List.append_assoc]; rfl, by rw [hsk, sink_go hgo, List.append_assoc]; rfl, hzn, hat47, hk8, rfl⟩
    ·
     refine Gn [12, 13, 5, 6, 7, 8, 9, 0, 1, 14, 15, 2, 3, 4, 16, 17] [0, 1, 2, 3, 8, 9, 22, 23, 24, 25, 26, 27, 28, 29, 30, 31, 32, 33, 47, 48] <| Gi (b := b) (o := o) (len := xs.length) (cap := cap) (j := j) 3 1 8 .i64 <| GI_cellA 3 (.tmp 49) (o + j * 1) (nt x) (some 50) (by kernel_rfl) (by kernel_rfl) K30 (by kernel_rfl) hat2.blk (m := 1) (by kernel_rfl) (At.cell0 hat2 (es_at hzj) rfl) ?_
     have hw51 : i64.wrap ((j : Int) - 1) = ((j - 1 : Nat) : Int) := wrp
     refine Gn [8, 9, 0, 1, 14, 15, 2, 3, 4, 16, 17] [0, 1, 2, 3, 8, 9, 22, 23, 24, 25, 26, 27, 28, 29, 30, 31, 32, 33, 42, 44, 50] <| Gq_ (u := nt (i64.wrap ((j : Int) - 1))) (v := nt ((j - 1 : Nat) : Int)) 44 (by rw [hw51]) <| Gi (b := b) (o := o) (len := xs.length) (cap := cap) (j := j - 1) 3 1 8 .i64 <| GI_cellA 3 (.tmp 45) (o + (j - 1) * 1) (nt x18) (some 46) (by kernel_rfl) (by kernel_rfl) K30 (by kernel_rfl) hat2.blk (m := 1) (by kernel_rfl) (At.cell0 hat2 (es_at hx19) rfl) <| Gn [14, 15, 2, 3, 4, 16, 17] [0, 1, 2, 3, 8, 9, 22, 23, 24, 25, 26, 27, 28, 29, 30, 31, 32, 33, 37, 38, 46, 50] <| Gi (b := b) (o := o) (len := xs.length) (cap := cap) (j := j) 3 1 8 .i64 <| GI_set (m := 1) (kd := false) 3 (.tmp 51) (.tmp 46) (o + j * 1) (nt x18) [nt x18] none (by kernel_rfl) (by kernel_rfl) (by kernel_rfl) (by kernel_rfl) (At.blk hat2) (by kernel_rfl) (by kernel_rfl) rfl (by have h1 := At.room hat2; have h2 := At.le hat2; rw [List.length_map] at h2; omega) (by simp [Value.oneCell']) K30 (fun hh => rfl) ?_
     intro w52 hn53 hk54 hz55 K57
     obtain ⟨hat56, hlhx58, hx58⟩ := At.st1 (y := (x18 : Int)) (k := 0) hat2 hzj (by omega) (by simp [intc, over]) hn53
     have hsz59 := Keep.size hk54
     replace hk8 := Keep.fr hk8 hk54
     have hw60 : i64.wrap ((j : Int) - 1) = ((j - 1 : Nat) : Int) := wrp
     refine Gn [16, 17] [0, 1, 2, 3, 8, 9, 22, 23, 24, 25, 26, 27, 28, 29, 30, 31, 32, 33, 39, 41, 50] <| Gq_ (u := nt (i64.wrap ((j : Int) - 1))) (v := nt ((j - 1 : Nat) : Int)) 41 (by rw [hw60]) <| Gi (b := b) (o := o) (len := xs.length) (cap := cap) (j := j - 1) 3 1 8 .i64 <| GI_final 17 (by kernel_rfl) (by kernel_rfl) ?_
     obtain ⟨x61, hx62⟩ := exAt (xs := zs.set j x18) (i := j - 1)
     refine Ts1 (x : Int) 0 (nt x) hat56 hx62 (by simp [intc, over]) ?_
     intro w63 hat67 hk65 hz66 hlhx68 hx68
     have hsz69 := Keep.size hk65
     replace hk8 := Keep.fr hk8 hk65
     refine OI_end rfl <| X_block <| X_then <| V_region ?_
     have hw70 : i64.wrap ((j : Int) - 1) = ((j - 1 : Nat) : Int) := wrp
     refine On 2 [0, 1, 2, 3, 8, 22, 23, 24, 25, 26, 27, 28, 29, 30, 31, 32, 33, 36] <| Oq (u := nt (i64.wrap ((j : Int) - 1))) (v := nt ((j - 1 : Nat) : Int)) 36 (by rw [hw70]) <| Os 3 [(0, sl_ b o xs.length cap),(1, nt 0),(2, nt (xs.length : Int)),(3, .func (.func F) #[] #[cv]),(8, nt (i : Int)),(9, nt ((j - 1 : Nat) : Int)),(22, .func (.func F) #[] #[cv]),(23, sl_ b o xs.length cap),(24, nt (j : Int)),(25, .pointer (some ⟨b, o + j * 1, none⟩)),(26, nt x),(27, sl_ b o xs.length cap),(28, nt (j : Int)),(29, nt ((j - 1 : Nat) : Int)),(30, .pointer (some ⟨b, o + (j - 1) * 1, none⟩)),(31, nt x18),(32, nt (cmpI (key x18) (key x))),(33, .bool (decide (cmpI (key x18) (key x) < 0)))] <| OI_end rfl ?_
     obtain ⟨B, rfl, hzn⟩ := sink_prev hzs hj (by omega) hx19
     have hgo : key x > key x18 := cmpI_neg.1 hc24
     exact V_again (j - 1) (by omega) [(0, sl_ b o xs.length cap),(1, nt 0),(2, nt (xs.length : Int)),(3, .func (.func F) #[] #[cv]),(8, nt (i : Int)),(9, nt ((j - 1 : Nat) : Int))] rfl ⟨j - 1, A1 ++ [x18], B, _, _, by omega, by rw [hj]; simp, by rw [hac, List.append_assoc]; rfl, by rw [hsk, sink_go hgo, List.append_assoc]; rfl, hzn, hat67, hk8, rfl⟩
   obtain ⟨B, hB, _⟩ := sink_prev hzs hj (by omega) hx19
   have hsx : sink key x acc = A1 ++ x :: A2 := by rw [hsk, hB, sink_stop (fun h9 => hc24 (cmpI_neg.2 h9))]
   refine V_exit <| X_exit_then <| X_exit_then <| X_exit_here <| X_block <| X_then <| V_region ?_
   have hw71 : i64.wrap ((i : Int) + 1) = ((i + 1 : Nat) : Int) := wrp
   refine On 2 [0, 1, 2, 3, 16, 22, 23, 24, 25, 26, 27, 28, 29, 30, 31, 32, 33] <| Oq (u := nt (i64.wrap ((i : Int) + 1))) (v := nt ((i + 1 : Nat) : Int)) 16 (by rw [hw71]) <| Os 3 [(0, sl_ b o xs.length cap),(1, nt 0),(2, nt (xs.length : Int)),(3, .func (.func F) #[] #[cv]),(8, nt ((i + 1 : Nat) : Int)),(22, .func (.func F) #[] #[cv]),(23, sl_ b o xs.length cap),(24, nt (j : Int)),(25, .pointer (some ⟨b, o + j * 1, none⟩)),(26, nt x),(27, sl_ b o xs.length cap),(28, nt (j : Int)),(29, nt ((j - 1 : Nat) : Int)),(30, .pointer (some ⟨b, o + (j - 1) * 1, none⟩)),(31, nt x18),(32, nt (cmpI (key x18) (key x))),(33, .bool (decide (cmpI (key x18) (key x) < 0)))] <| OI_end rfl ?_
   exact V_again (xs.length - (i + 1)) (by omega) [(0, sl_ b o xs.length cap),(1, nt 0),(2, nt (xs.length : Int)),(3, .func (.func F) #[] #[cv]),(8, nt ((i + 1 : Nat) : Int))] rfl ⟨i + 1, A1 ++ x :: A2, zs, _, by omega, by omega, by rw [hst1, ← hso, hsx], by have h9 := congrArg List.length hac; simp only [List.length_append, List.length_cons] at h9 ⊢; omega, by rw [hzs]; simp, hat2, hk3, rfl⟩
  have hA2 : A2 = [] := List.length_eq_zero_iff.1 (by omega)
  have hsx : sink key x acc = A1 ++ x :: A2 := by rw [hsk, hA2]; rfl
  refine Ef 21 hg16 <| Gn [] [0, 1, 2, 3, 8, 9, 22, 23, 24, 25, 26, 27, 28, 29, 30, 31, 32, 33, 34] <| GI_end <| X_then <| Vf <| V_exit <| X_exit_then <| X_exit_then <| X_exit_here <| X_block <| X_then <| V_region ?_
  have hw72 : i64.wrap ((i : Int) + 1) = ((i + 1 : Nat) : Int) := wrp
  refine On 2 [0, 1, 2, 3, 16, 22, 23, 24, 25, 26, 27, 28, 29, 30, 31, 32, 33] <| Oq (u := nt (i64.wrap ((i : Int) + 1))) (v := nt ((i + 1 : Nat) : Int)) 16 (by rw [hw72]) <| Os 3 [(0, sl_ b o xs.length cap),(1, nt 0),(2, nt (xs.length : Int)),(3, .func (.func F) #[] #[cv]),(8, nt ((i + 1 : Nat) : Int)),(22, undef),(23, undef),(24, undef),(25, undef),(26, undef),(27, undef),(28, undef),(29, undef),(30, undef),(31, undef),(32, undef),(33, undef)] <| OI_end rfl ?_
  exact V_again (xs.length - (i + 1)) (by omega) [(0, sl_ b o xs.length cap),(1, nt 0),(2, nt (xs.length : Int)),(3, .func (.func F) #[] #[cv]),(8, nt ((i + 1 : Nat) : Int))] rfl ⟨i + 1, A1 ++ x :: A2, zs, _, by omega, by omega, by rw [hst1, ← hso, hsx], by have h9 := congrArg List.length hac; simp only [List.length_append, List.length_cons] at h9 ⊢; omega, by rw [hzs]; simp, hat2, hk3, rfl⟩
 refine V_exit <| X_exit_then <| X_exit_then <| X_exit_here ?_
 have hie : i = xs.length := by omega
 have h9 : ys = sortD key xs := by rw [hys, hie, List.drop_length, List.append_nil, hso, hie, List.take_length]; rfl
 exact X_end _ rfl ⟨rfl, by rw [← h9]; exact At.slt hat, hK0⟩
theorem isort_nil (A : Option Addr) (cap : Nat) (fv : Value) (w : World) : Calls Tryz.prog 203 #[.slice A 0 cap, nt 0, nt 0, fv] w fun e w' => e = .returned (.tuple #[]) ∧ w' = w := by
 refine eV ?_
 refine Vn [0, 1, 2, 3, 8] <| V_block <| Vp [(0, .slice A 0 cap),(1, nt 0),(2, nt 0),(3, fv),(8, nt 1)] <| V_loop (fun k wI e => (k = 0) ∧ w = wI ∧ e = [(0, .slice A 0 cap),(1, nt 0),(2, nt 0),(3, fv),(8, nt 1)]) 0 ⟨rfl, rfl, rfl⟩ ?_
 rintro k2 _ _ ⟨hk9, rfl, rfl⟩
 refine V_seq <| Vs [(0, .slice A 0 cap),(1, nt 0),(2, nt 0),(3, fv),(8, nt 1),(14, .bool false)] <| Vf <| V_exit <| X_exit_then <| X_exit_then <| X_exit_here ?_
 exact X_end _ rfl ⟨rfl, rfl⟩
theorem stable_at (b o cap F : Nat) (cv : Value) (L : List Value) (T : TypeId) (xs : List Int) (key : Int → Int) (w : World) (h : At w b o L T 1 cap (xs.map intc)) (hn : xs.length ≤ 19) (h1 : 0 < xs.length) (hb : bodied Tryz.prog F = true) (hF : ∀ x y w1, Keep (only b) w w1 → Calls Tryz.prog F #[nt x, nt y, cv] w1 fun e w' => e = .returned (nt (cmpI (key y) (key x))) ∧ Keep none_ w1 w') : Calls Tryz.prog 185 #[sl_ b o xs.length cap, nt (xs.length : Int), .func (.func F) #[] #[cv]] w fun e w' => e = .returned (.tuple #[]) ∧ SlT w' 1 intc (some ⟨b, o, none⟩) cap (sortD key xs) ∧ Keep (only b) w w' := by
 have hblt := h.blk.lt
 have hK0 : Keep (only b) w w := Keep.refl _ _
 refine eV ?_
 refine Vr <| On 1 [0, 1, 2, 6] <| Oer <| Oen [0, 1, 2, 6, 7, 8] <| V_seq <| V_block <| Vp [(0, sl_ b o xs.length cap),(1, nt (xs.length : Int)),(2, .func (.func F) #[] #[cv]),(6, nt 20),(7, nt 0),(8, nt 20)] <| V_loop (fun k wI e => (k = 0) ∧ w = wI ∧ e = [(0, sl_ b o xs.length cap),(1, nt (xs.length : Int)),(2, .func (.func F) #[] #[cv]),(6, nt 20),(7, nt 0),(8, nt 20)]) 0 ⟨rfl, rfl, rfl⟩ ?_
 rintro k2 _ _ ⟨hk9, rfl, rfl⟩
 refine V_seq <| Vs [(0, sl_ b o xs.length cap),(1, nt (xs.length : Int)),(2, .func (.func F) #[] #[cv]),(6, nt 20),(7, nt 0),(8, nt 20),(13, .bool (decide ((20 : Int) ≤ (xs.length : Int))))] <| Vi ((20 : Int) ≤ (xs.length : Int)) (fun hc3 => ?_) (fun hc3 => ?_)
 ·
  exact (by omega : False).elim
 refine V_exit <| X_exit_then <| X_exit_then <| X_exit_here <| X_then <| Vr <| On 4 [0, 1, 2, 6, 23, 24, 25, 26] <| Kg (isort_at b o cap F cv L T xs key _ h hn h1 hb hF) ?_
 rintro _ w6 ⟨rfl, hso, hk7⟩
 refine ⟨_, rfl, ?_⟩
 have hsz8 := Keep.size hk7
 replace hK0 := Keep.fr hK0 hk7
 refine Oe <| V_block <| Vp [(0, sl_ b o xs.length cap),(1, nt (xs.length : Int)),(2, .func (.func F) #[] #[cv]),(6, nt 20)] <| V_loop (fun k wI e => (k = 0) ∧ w6 = wI ∧ e = [(0, sl_ b o xs.length cap),(1, nt (xs.length : Int)),(2, .func (.func F) #[] #[cv]),(6, nt 20)]) 0 ⟨rfl, rfl, rfl⟩ ?_
 rintro k10 _ _ ⟨hk9, rfl, rfl⟩
 refine V_seq <| Vs [(0, sl_ b o xs.length cap),(1, nt (xs.length : Int)),(2, .func (.func F) #[] #[cv]),(6, nt 20),(30, .bool (decide ((20 : Int) < (xs.length : Int))))] <| Vi ((20 : Int) < (xs.length : Int)) (fun hc11 => ?_) (fun hc11 => ?_)
 ·
  exact (by omega : False).elim
 refine V_exit <| X_exit_then <| X_exit_then <| X_exit_here ?_
 exact X_end _ rfl ⟨rfl, hso, hK0⟩
theorem stable_nil (A : Option Addr) (cap : Nat) (fv : Value) (w : World) : Calls Tryz.prog 185 #[.slice A 0 cap, nt 0, fv] w fun e w' => e = .returned (.tuple #[]) ∧ w' = w := by
 refine eV ?_
 refine Vr <| On 1 [0, 1, 2, 6] <| Oer <| Oen [0, 1, 2, 6, 7, 8] <| V_seq <| V_block <| Vp [(0, .slice A 0 cap),(1, nt 0),(2, fv),(6, nt 20),(7, nt 0),(8, nt 20)] <| V_loop (fun k wI e => (k = 0) ∧ w = wI ∧ e = [(0, .slice A 0 cap),(1, nt 0),(2, fv),(6, nt 20),(7, nt 0),(8, nt 20)]) 0 ⟨rfl, rfl, rfl⟩ ?_
 rintro k2 _ _ ⟨hk9, rfl, rfl⟩
 refine V_seq <| Vn [0, 1, 2, 6, 7, 8, 13] <| Vf <| V_exit <| X_exit_then <| X_exit_then <| X_exit_here <| X_then <| Vr <| On 4 [0, 1, 2, 6, 23, 24, 25, 26] <| Kq (isort_nil A cap fv _) <| Oe <| V_block <| Vp [(0, .slice A 0 cap),(1, nt 0),(2, fv),(6, nt 20)] <| V_loop (fun k wI e => (k = 0) ∧ w = wI ∧ e = [(0, .slice A 0 cap),(1, nt 0),(2, fv),(6, nt 20)]) 0 ⟨rfl, rfl, rfl⟩ ?_
 rintro k7 _ _ ⟨hk9, rfl, rfl⟩
 refine V_seq <| Vs [(0, .slice A 0 cap),(1, nt 0),(2, fv),(6, nt 20),(30, .bool false)] <| Vf <| V_exit <| X_exit_then <| X_exit_then <| X_exit_here ?_
 exact X_end _ rfl ⟨rfl, rfl⟩
theorem ssort_at (b o cap F : Nat) (cv : Value) (L : List Value) (T : TypeId) (xs : List Int) (key : Int → Int) (w : World) (h : At w b o L T 1 cap (xs.map intc)) (hn : xs.length ≤ 19) (h1 : 0 < xs.length) (hb : bodied Tryz.prog F = true) (hF : ∀ x y w1, Keep (only b) w w1 → Calls Tryz.prog F #[nt x, nt y, cv] w1 fun e w' => e = .returned (nt (cmpI (key y) (key x))) ∧ Keep none_ w1 w') : Calls Tryz.prog 151 #[sl_ b o xs.length cap, .func (.func F) #[] #[cv]] w fun e w' => e = .returned (.tuple #[]) ∧ SlT w' 1 intc (some ⟨b, o, none⟩) cap (sortD key xs) ∧ Keep (only b) w w' := by
 have hblt := h.blk.lt
 have hK0 : Keep (only b) w w := Keep.refl _ _
 refine eV ?_
 refine V_region <| Os 4 [(4, sl_ b o xs.length cap),(6, nt (xs.length : Int)),(7, .func (.func F) #[] #[cv])] <| Ok (kl 185 #[(.tmp 4),(.tmp 6),(.tmp 7)] #[72, 3, 128]) 185 #[sl_ b o xs.length cap, nt (xs.length : Int), .func (.func F) #[] #[cv]] (some 8) (stable_at b o cap F cv L T xs key _ h hn h1 hb hF) ?_
 rintro _ w3 ⟨rfl, hso, hk4⟩
 refine ⟨_, rfl, ?_⟩
 have hsz5 := Keep.size hk4
 replace hK0 := Keep.fr hK0 hk4
 refine OI_end rfl ?_
 exact X_end _ rfl ⟨rfl, hso, hK0⟩
theorem ssort_nil (A : Option Addr) (cap : Nat) (fv : Value) (w : World) : Calls Tryz.prog 151 #[.slice A 0 cap, fv] w fun e w' => e = .returned (.tuple #[]) ∧ w' = w := by
 refine eV ?_
 refine V_region <| Os 4 [(4, .slice A 0 cap),(6, nt 0),(7, fv)] <| Ok (kl 185 #[(.tmp 4),(.tmp 6),(.tmp 7)] #[72, 3, 128]) 185 #[.slice A 0 cap, nt 0, fv] (some 8) (stable_nil A cap fv _) ?_
 rintro _ w ⟨rfl, rfl⟩
 refine ⟨_, rfl, ?_⟩
 refine OI_end rfl ?_
 exact X_end _ rfl ⟨rfl, rfl⟩
theorem ssort_spec (A : Option Addr) (cap F : Nat) (cv : Value) (xs : List Int) (key : Int → Int) (w : World) (hA : SlT w 1 intc A cap xs) (hn : xs.length ≤ 19) (hb : bodied Tryz.prog F = true) (hF : ∀ x y w1, Keep (inA A) w w1 → Calls Tryz.prog F #[nt x, nt y, cv] w1 fun e w' => e = .returned (nt (cmpI (key y) (key x))) ∧ Keep none_ w1 w') : Calls Tryz.prog 151 #[.slice A xs.length cap, .func (.func F) #[] #[cv]] w fun e w' => e = .returned (.tuple #[]) ∧ SlT w' 1 intc A cap (sortD key xs) ∧ Keep (inA A) w w' := by
  rcases Nat.eq_zero_or_pos xs.length with h0 | h0
  · obtain rfl := List.length_eq_zero_iff.1 h0
    exact (ssort_nil A cap _ w).mono (by rintro e w' ⟨rfl, rfl⟩; exact ⟨rfl, hA, Keep.refl _ _⟩)
  · obtain ⟨b, o, L, T, rfl, h⟩ := hA.open_ h0
    refine (ssort_at b o cap F cv L T xs key w h hn h0 hb (fun x y w1 hk => hF x y w1 (hk.mono (fun q _ hq => ⟨_, rfl, hq⟩)))).mono ?_
    rintro e w' ⟨rfl, h1, h2⟩
    exact ⟨rfl, h1, h2.mono (fun q _ hq => ⟨_, rfl, hq⟩)⟩
theorem sink_len (key : Int → Int) (x : Int) : ∀ l : List Int, (sink key x l).length = l.length + 1
  | [] => rfl
  | y :: l => by
    simp only [sink]
    split
    · simp only [List.length_cons, sink_len key x l]
    · simp only [List.length_cons]
theorem sortD_len (key : Int → Int) (l : List Int) : (sortD key l).length = l.length := by
  have h : ∀ (l acc : List Int),(l.foldl (fun acc x => sink key x acc) acc).length = acc.length + l.length := by
    intro l
    induction l with
    | nil => intro acc; rfl
    | cons x l ih => intro acc; simp only [List.foldl_cons, ih, sink_len, List.length_cons]; omega
  unfold sortD
  rw [List.length_reverse, h]; simp
theorem sink_mem {key : Int → Int} {x z : Int} : ∀ {l : List Int}, z ∈ sink key x l → z = x ∨ z ∈ l
  | [], h => by simp only [sink, List.mem_singleton] at h; exact .inl h
  | y :: l, h => by
    simp only [sink] at h
    split at h
    · rcases List.mem_cons.1 h with h | h
      · exact .inr (h ▸ List.mem_cons_self ..)
      · exact (sink_mem h).imp id (List.mem_cons_of_mem _)
    · rcases List.mem_cons.1 h with h | h
      · exact .inl h
      · exact .inr h
theorem sortD_mem {l : List Int} {z : Int} (h : z ∈ sortD key l) : z ∈ l := by
  have hf : ∀ (l acc : List Int), z ∈ l.foldl (fun acc x => sink key x acc) acc → z ∈ acc ∨ z ∈ l := by
    intro l
    induction l with
    | nil => intro acc h; exact .inl h
    | cons x l ih =>
      intro acc h
      rcases ih _ h with h | h
      · exact (sink_mem h).elim (fun e => .inr (e ▸ List.mem_cons_self ..)) .inl
      · exact .inr (List.mem_cons_of_mem _ h)
  unfold sortD at h
  exact (hf l [] (List.mem_reverse.1 h)).elim (fun h => by cases h) id
end Go.Al
namespace Go.Al
open Go Go.RowKit Go.Proofs
theorem rget_spec (H : Nat → Prop) (r g : Nat) (ts : List Trk) (rs : List Rfm) (ref : Int) (w : World) (hR : Rfr H w r g ts rs) : Calls Tryz.prog 23 #[pt r, nt ref] w fun e w' => e = .returned (.tuple #[.agg (getA rs ref).cells.toArray, .bool (getR rs ref).isSome]) ∧ Keep none_ w w' := by
 have hHlt := Rfr.lt hR
 have hrH := Rfr.at_ hR
 have hgH := Rfr.atg hR
 have hrlt := hHlt _ hrH
 have hglt := hHlt _ hgH
 have hin := Rfr.inn hR
 obtain ⟨A, cap, hr, hA, hAo, hrg⟩ := Rfr.parts hR
 have hAlt := SlT.lt hA
 have hAr : ∀ q, inA A q → q ≠ r ∧ q ≠ g ∧ q < w.heap.size := fun q hq => ⟨(hAo q hq).2.1, (hAo q hq).2.2, hAlt q hq⟩
 have hgo : ∀ q, only g q → q ≠ r := fun q hq e => hrg (e.symm.trans hq)
 have hgl : ∀ q, only g q → q < w.heap.size := fun q hq => by rw [show q = g from hq]; exact hglt
 have hHo : ∀ q, H q → 0 ≤ q := fun q _ => Nat.zero_le q
 have htl := hin.tl
 have hrl := hin.rl
 have hK0 := Keep.refl none_ w
 refine enterM Tryz.func23 rfl [pt r, nt ref] 17 rfl rfl rfl ?_
 refine Vp [(0, pt r),(1, nt ref)] <| Vr <| Alc_ 57 (.agg (Rfm.cells Rfm.zero).toArray) (Rfm.cells Rfm.zero) ?_
 intro b1 w1 e1 hb1 k1 z1
 have hsz2 := Keep.size k1
 replace hr := hr.k0 k1
 replace hR := hR.keep k1 nk
 replace hK0 := hK0.tn k1
 have hb1lt := hb1.lt
 refine On 2 [0, 1, 4] <| Oe <| V_seq <| Vn [0, 1, 4, 7] <| Vf <| Vsk <| Vr <| On 3 [1, 4, 11] <| Lr 1 (pt g) hr <| On 5 [4, 12, 13] <| Kk (qget_spec H r g ts rs ref _ hR) fun w3 hk4 _ => ?_
 replace hb1 := hb1.k0 hk4
 replace hK0 := hK0.tn hk4
 refine On 8 [4, 15, 16] <| Sg 0 (Rfm.cells (getA rs ref)) hb1 (Rfm.len _) (Rfm.one _) ?_
 intro w6 hb1_9 hk7 hz8
 replace hb1_9 : Blk w6 b1 (Rfm.cells (getA rs ref)) 57 := (Blk.eqL (Rfm.over _ _) hb1_9)
 have hsz10 := Keep.size hk7
 replace hK0 := Keep.fr hK0 hk7
 refine Ose [(4, pt b1),(5, .bool ((getR rs ref).isSome))] <| V_ret ?_
 exact leave0 (.tuple #[.agg (Rfm.cells (getA rs ref)).toArray, .bool ((getR rs ref).isSome)]) (.inl rfl) (res_agg_tmp (m := 45) rfl rfl rfl (by kernel_rfl) hb1_9 rfl) ⟨rfl, hK0⟩
theorem rtrack_in (H : Nat → Prop) (r g : Nat) (ts : List Trk) (rs : List Rfm) (j : Nat) (w : World) (hR : Rfr H w r g ts rs) (hj : j < ts.length) : Calls Tryz.prog 29 #[pt r, nt (j : Int)] w fun e w' => e = .returned (.tuple #[.agg (trkA ts (j : Int)).cells.toArray, .bool (trkO ts (j : Int)).isSome]) ∧ Keep none_ w w' := by
 have hHlt := Rfr.lt hR
 have hrH := Rfr.at_ hR
 have hgH := Rfr.atg hR
 have hrlt := hHlt _ hrH
 have hglt := hHlt _ hgH
 have hin := Rfr.inn hR
 obtain ⟨A, cap, hr, hA, hAo, hrg⟩ := Rfr.parts hR
 have hAlt := SlT.lt hA
 have hAr : ∀ q, inA A q → q ≠ r ∧ q ≠ g ∧ q < w.heap.size := fun q hq => ⟨(hAo q hq).2.1, (hAo q hq).2.2, hAlt q hq⟩
 have hgo : ∀ q, only g q → q ≠ r := fun q hq e => hrg (e.symm.trans hq)
 have hgl : ∀ q, only g q → q < w.heap.size := fun q hq => by rw [show q = g from hq]; exact hglt
 have hHo : ∀ q, H q → 0 ≤ q := fun q _ => Nat.zero_le q
 have htl := hin.tl
 have hrl := hin.rl
 have hK0 := Keep.refl none_ w
 refine enterM Tryz.func29 rfl [pt r, nt (j : Int)] 29 rfl rfl rfl ?_
 refine Vp [(0, pt r),(1, nt (j : Int))] <| Vr <| Alc_ 27 (.agg (Trk.cells Trk.zero).toArray) (Trk.cells Trk.zero) ?_
 intro b1 w1 e1 hb1 k1 z1
 have hsz2 := Keep.size k1
 replace hr := hr.k0 k1
 replace hA := hA.keep0 k1
 replace hK0 := hK0.tn k1
 have hb1lt := hb1.lt
 refine On 2 [0, 1, 4] <| Oe <| V_seq <| Vr <| Os 7 [(0, pt r),(1, nt (j : Int)),(4, pt b1),(12, .bool (decide ((j : Int) < 0)))] ?_
 by_cases hg3 : (j : Int) < 0
 ·
  exact (by omega : False).elim
 refine Df 12 hg3 <| On 11 [0, 1, 4, 12, 13, 16] <| Lr 0 (.slice A ts.length cap) hr <| Ose [(0, pt r),(1, nt (j : Int)),(4, pt b1),(20, .bool (decide ((j : Int) ≥ (ts.length : Int))))] <| Vi ((j : Int) ≥ (ts.length : Int)) (fun hc4 => ?_) (fun hc4 => ?_)
 ·
  exact (by omega : False).elim
 refine Vsk <| Vr <| On 3 [1, 4, 24] <| Lr 0 (.slice A ts.length cap) hr <| On 5 [4, 25, 26] ?_
 obtain ⟨b5, o5, L5, T5, rfl, hat5⟩ := SlT.opn hA
 have hb5lt := hat5.blk.lt
 have hob6 := hAr b5 ⟨_, rfl, rfl⟩
 have hob7 := hAlt b5 ⟨_, rfl, rfl⟩
 refine Oi (b := b5) (o := o5) (len := ts.length) (cap := cap) (j := j) (some 27) 29 (.tmp 25) (.tmp 26) 27 18 144 .i64 ?_
 obtain ⟨x8, hx9⟩ := exAt (xs := ts) (i := j)
 refine La (o5 + j * 18) (Trk.cells x8) 18 hat5.blk (At.elem' hat5 (es_at hx9)) (At.len hat5 (es_at hx9)) <| Sg 0 (Trk.cells x8) hb1 (Trk.len _) (Trk.one _) ?_
 intro w10 hb1_13 hk11 hz12
 replace hb1_13 : Blk w10 b1 (Trk.cells x8) 27 := (Blk.eqL (Trk.over _ _) hb1_13)
 have hsz14 := Keep.size hk11
 replace hK0 := Keep.fr hK0 hk11
 refine Ose [(4, pt b1),(5, .bool true)] <| V_ret ?_
 exact leave0 (.tuple #[.agg (Trk.cells x8).toArray, .bool true]) (.inl rfl) (res_agg_tmp (m := 18) rfl rfl rfl (by kernel_rfl) hb1_13 rfl) ⟨by have e9 : trkO ts (j : Int) = some x8 := (by unfold trkO; rw [if_pos (by omega), Int.toNat_natCast]; exact hx9); unfold trkA; rw [e9]; rfl, hK0⟩
theorem rtrack_out (H : Nat → Prop) (r g : Nat) (ts : List Trk) (rs : List Rfm) (i : Int) (w : World) (hR : Rfr H w r g ts rs) (hi : ¬ (0 ≤ i ∧ i < ts.length)) : Calls Tryz.prog 29 #[pt r, nt i] w fun e w' => e = .returned (.tuple #[.agg (trkA ts i).cells.toArray, .bool (trkO ts i).isSome]) ∧ Keep none_ w w' := by
 have hHlt := Rfr.lt hR
 have hrH := Rfr.at_ hR
 have hgH := Rfr.atg hR
 have hrlt := hHlt _ hrH
 have hglt := hHlt _ hgH
 have hin := Rfr.inn hR
 obtain ⟨A, cap, hr, hA, hAo, hrg⟩ := Rfr.parts hR
 have hAlt := SlT.lt hA
 have hAr : ∀ q, inA A q → q ≠ r ∧ q ≠ g ∧ q < w.heap.size := fun q hq => ⟨(hAo q hq).2.1, (hAo q hq).2.2, hAlt q hq⟩
 have hgo : ∀ q, only g q → q ≠ r := fun q hq e => hrg (e.symm.trans hq)
 have hgl : ∀ q, only g q → q < w.heap.size := fun q hq => by rw [show q = g from hq]; exact hglt
 have hHo : ∀ q, H q → 0 ≤ q := fun q _ => Nat.zero_le q
 have htl := hin.tl
 have hrl := hin.rl
 have hK0 := Keep.refl none_ w
 refine enterM Tryz.func29 rfl [pt r, nt i] 29 rfl rfl rfl ?_
 refine Vp [(0, pt r),(1, nt i)] <| Vr <| Alc_ 27 (.agg (Trk.cells Trk.zero).toArray) (Trk.cells Trk.zero) ?_
 intro b1 w1 e1 hb1 k1 z1
 have hsz2 := Keep.size k1
 replace hr := hr.k0 k1
 replace hK0 := hK0.tn k1
 have hb1lt := hb1.lt
 refine On 2 [0, 1, 4] <| Oe <| V_seq <| Vr <| On 7 [0, 1, 4, 12] ?_
 by_cases hg3 : i < 0
 ·
  refine Dt 12 hg3 <| Oen [0, 1, 4, 20] <| Vo <| Vr <| On 1 [4, 21] <| Sg 0 (Trk.cells Trk.zero) hb1 (Trk.len _) (Trk.one _) ?_
  intro w4 hb1_7 hk5 hz6
  replace hb1_7 : Blk w4 b1 (Trk.cells Trk.zero) 27 := (Blk.eqL (Trk.over _ _) hb1_7)
  have hsz8 := Keep.size hk5
  replace hK0 := Keep.fr hK0 hk5
  refine Ose [(4, pt b1),(5, .bool false)] <| Rt ?_
  exact leave0 (.tuple #[.agg (Trk.cells Trk.zero).toArray, .bool false]) (.inl rfl) (res_agg_tmp (m := 18) rfl rfl rfl (by kernel_rfl) hb1_7 rfl) ⟨by have e9 : trkO ts i = none := if_neg hi; unfold trkA; rw [e9]; rfl, hK0⟩
 refine Df 12 hg3 <| On 11 [0, 1, 4, 12, 13, 16] <| Lr 0 (.slice A ts.length cap) hr <| Ose [(0, pt r),(1, nt i),(4, pt b1),(20, .bool (decide (i ≥ (ts.length : Int))))] <| Vi (i ≥ (ts.length : Int)) (fun hc9 => ?_) (fun hc9 => ?_)
 ·
  refine Vr <| On 1 [4, 21] <| Sg 0 (Trk.cells Trk.zero) hb1 (Trk.len _) (Trk.one _) ?_
  intro w10 hb1_13 hk11 hz12
  replace hb1_13 : Blk w10 b1 (Trk.cells Trk.zero) 27 := (Blk.eqL (Trk.over _ _) hb1_13)
  have hsz14 := Keep.size hk11
  replace hK0 := Keep.fr hK0 hk11
  refine Ose [(4, pt b1),(5, .bool false)] <| Rt ?_
  exact leave0 (.tuple #[.agg (Trk.cells Trk.zero).toArray, .bool false]) (.inl rfl) (res_agg_tmp (m := 18) rfl rfl rfl (by kernel_rfl) hb1_13 rfl) ⟨by have e9 : trkO ts i = none := if_neg hi; unfold trkA; rw [e9]; rfl, hK0⟩
 exact (by omega : False).elim
theorem rtrack_spec (H : Nat → Prop) (r g : Nat) (ts : List Trk) (rs : List Rfm) (i : Int) (w : World) (hR : Rfr H w r g ts rs) : Calls Tryz.prog 29 #[pt r, nt i] w fun e w' => e = .returned (.tuple #[.agg (trkA ts i).cells.toArray, .bool (trkO ts i).isSome]) ∧ Keep none_ w w' := by
  by_cases hi : 0 ≤ i ∧ i < ts.length
  · obtain ⟨j, rfl⟩ : ∃ j : Nat, i = j := ⟨i.toNat, by omega⟩
    exact rtrack_in H r g ts rs j w hR (by omega)
  · exact rtrack_out H r g ts rs i w hR hi
end Go.Al
namespace Go.Al
open Go Go.RowKit Go.Proofs
theorem all_at (r g n cap : Nat) (A : Option Addr) (w : World) (hr : Blk w r [.slice A n cap, pt g] 97) : Calls Tryz.prog 48 #[pt r] w fun e w' => ∃ bg bs bn, e = .returned (.func (.func 183) #[] #[pt bg, pt bs, pt bn]) ∧ Blk w' bg [pt g] 95 ∧ Blk w' bs [nt 0] 3 ∧ Blk w' bn [nt 0] 3 ∧ Keep none_ w w' ∧ w.heap.size ≤ bg ∧ w.heap.size ≤ bs ∧ w.heap.size ≤ bn := by
 have hrlt := hr.lt
 have hK0 := Keep.refl none_ w
 refine eV ?_
 refine Vr <| On 1 [0] <| Oe <| V_seq <| Vn [0, 4] <| Vf <| Vsk <| Vr <| On 3 [8] <| Lr 1 (pt g) hr <| Ok (kl 102 #[(.tmp 9),(.const (nt 0))] #[95, 3]) 102 #[pt g, nt 0] (some 10) (GQ.row_spec _ rfl 0 _) ?_
 rintro _ w1 ⟨bg3, bs4, bn5, rfl, hbg3, hbs4, hbn5, hk2, hgebg3, hgebs4, hgebn5⟩
 refine ⟨_, rfl, ?_⟩
 have hsz6 := Keep.size hk2
 replace hK0 := hK0.tn hk2
 have hbg3lt := hbg3.lt
 have hbs4lt := hbs4.lt
 have hbn5lt := hbn5.lt
 refine Ose [(2, .func (.func 183) #[] #[pt bg3, pt bs4, pt bn5])] <| V_ret ?_
 exact X_return _ rfl ⟨bg3, bs4, bn5, rfl, hbg3, hbs4, hbn5, hK0, by omega, by omega, by omega⟩
theorem zipQ_at0 {l : List Rfm} {k : Nat} {x : Rfm} (h : l[k]? = some x) : (zipQ 0 l)[k]? = some ((k : Int), x) := by
  have := zipQ_at l 0 k x h
  rw [Nat.zero_add] at this; exact this
theorem alongQ (bg bs bn g cap : Nat) (A : Option Addr) (rs : List Rfm) (hn : rs.length ≤ 1000) : Iter2 Tryz.prog 183 #[pt bg, pt bs, pt bn] rs.length (GQ.enc2 (zipQ 0 rs)) (fun W => Blk W bg [pt g] 95 ∧ GQ.GrAt W g A cap (cellsQ 0 rs) ∧ GQ.AlOk bs bn 0 0 A cap (cellsQ 0 rs) W) (GQ.AlOk bs bn 0 0 A cap (cellsQ 0 rs)) := by
  have h := GQ.along1_iter0 bg bs bn g cap A (cellsQ 0 rs) 0 (by rw [cellsQ_len]; omega)
  rw [rowQ, zipQ_len] at h
  exact h
section
variable {ts : List Trk} {rs : List Rfm} {of now : Int} {x : Rfm} {k : Nat}
theorem wait_skip (h : x.state ≠ 1 ∨ x.track ≠ of) : waitB ts of now x = false ∧ decB of x = false := by
  unfold waitB decB
  rcases h with h | h
  · rw [decide_eq_true h]; exact ⟨rfl, rfl⟩
  · rw [decide_eq_true h, Bool.or_true]; exact ⟨rfl, rfl⟩
theorem wait_pre (h1 : x.state = 1) (h2 : x.track = of) : (!(decide (x.state ≠ 1) || decide (x.track ≠ of))) = true := by
  rw [decide_eq_false (fun h => h h1), decide_eq_false (fun h => h h2)]; rfl
theorem wait_dec (h1 : x.state = 1) (h2 : x.track = of) (h3 : ¬ x.since = -1) : waitB ts of now x = false ∧ decB of x = true := by
  unfold waitB decB
  rw [wait_pre h1 h2, decide_eq_false h3, decide_eq_true (show x.since ≠ -1 from h3)]; exact ⟨rfl, rfl⟩
theorem wait_no (h1 : x.state = 1) (h2 : x.track = of) (h3 : x.since = -1) (h4 : x.backer = -1 ∨ ¬ w64 (now - x.sub) ≥ (trkA ts of).prepare) : waitB ts of now x = false ∧ decB of x = false := by
  unfold waitB decB
  rw [wait_pre h1 h2, decide_eq_true h3, decide_eq_false (show ¬ (x.since ≠ -1) from fun h => h h3)]
  refine ⟨?_, rfl⟩
  rcases h4 with h | h
  · rw [decide_eq_false (show ¬ (x.backer ≠ -1) from fun h9 => h9 h)]; rfl
  · rw [decide_eq_false h]; cases decide (x.backer ≠ -1) <;> rfl
theorem wait_yes (h1 : x.state = 1) (h2 : x.track = of) (h3 : x.since = -1) (h4 : ¬ x.backer = -1) (h5 : w64 (now - x.sub) ≥ (trkA ts of).prepare) : waitB ts of now x = true ∧ decB of x = false := by
  unfold waitB decB
  rw [wait_pre h1 h2, decide_eq_true h3, decide_eq_false (show ¬ (x.since ≠ -1) from fun h => h h3), decide_eq_true (show x.backer ≠ -1 from h4), decide_eq_true h5]
  exact ⟨rfl, rfl⟩
theorem waitL_app : ∀ (l : List Rfm) (i : Nat) (x : Rfm), waitL ts of now i (l ++ [x]) = waitL ts of now i l ++ (if waitB ts of now x = true then [((i + l.length : Nat) : Int)] else [])
  | [], i, x => by
    simp only [List.nil_append, waitL, List.length_nil, Nat.add_zero]
  | y :: l, i, x => by
    simp only [List.cons_append, waitL, waitL_app l (i + 1) x, List.length_cons]
    rw [show i + 1 + l.length = i + (l.length + 1) by omega]
    split <;> rfl
theorem waitL_step (h : rs[k]? = some x) : waitL ts of now 0 (rs.take (k + 1)) = waitL ts of now 0 (rs.take k) ++ (if waitB ts of now x = true then [(k : Int)] else []) := by
  obtain ⟨h1, rfl⟩ := List.getElem?_eq_some_iff.1 h
  rw [List.take_succ_eq_append_getElem h1, waitL_app, List.length_take, Nat.min_eq_left (by omega), Nat.zero_add]
theorem decN_app : ∀ (l : List Rfm) (x : Rfm), decN of (l ++ [x]) = decN of l + (if decB of x = true then 1 else 0)
  | [], x => by simp only [List.nil_append, decN]; omega
  | y :: l, x => by simp only [List.cons_append, decN, decN_app l x]; omega
theorem decN_step (h : rs[k]? = some x) : decN of (rs.take (k + 1)) = decN of (rs.take k) + (if decB of x = true then 1 else 0) := by
  obtain ⟨h1, rfl⟩ := List.getElem?_eq_some_iff.1 h
  rw [List.take_succ_eq_append_getElem h1, decN_app]
theorem waitL_len : ∀ (l : List Rfm) (i : Nat),(waitL ts of now i l).length ≤ l.length
  | [], _ => Nat.le_refl _
  | y :: l, i => by
    have := waitL_len l (i + 1)
    simp only [waitL]
    split <;> simp only [List.length_cons] <;> omega
theorem waitL_mem {z : Int} : ∀ {l : List Rfm} {i : Nat}, z ∈ waitL ts of now i l → (i : Int) ≤ z ∧ z < ((i + l.length : Nat) : Int)
  | [], _, h => by cases h
  | y :: l, i, h => by
    simp only [waitL] at h
    simp only [List.length_cons]
    split at h
    · rcases List.mem_cons.1 h with rfl | h
      · omega
      · have := waitL_mem h; omega
    · have := waitL_mem h; omega
theorem decN_bnd : ∀ l : List Rfm, 0 ≤ decN of l ∧ decN of l ≤ l.length
  | [] => ⟨Int.le_refl _, Int.le_refl _⟩
  | y :: l => by
    have := decN_bnd l
    simp only [decN, List.length_cons]
    split <;> omega
end
theorem waits1_spec (bv : Nat) (F : Nat → Prop) (v : Nat) (s : VS) (a b : Int) (w : World) (hbv : Blk w bv [pt v] 33) (hV : VotT F w v s) : Calls Tryz.prog 152 #[nt a, nt b, pt bv] w fun e w' => e = .returned (nt (cmpI (tallyT s b).a (tallyT s a).a)) ∧ Keep none_ w w' := by
 have hFlt := VotT.lt hV
 have hbvlt := hbv.lt
 have hK0 := Keep.refl none_ w
 refine eV ?_
 refine Vn [0, 1, 2] <| V_seq <| Vd1 (acts [2, 6, 8]) none_ [0, 1, 2, 4, 5, 6, 3, 7, 8, 9] fun w2 hk1 he3 K6 _ => ?_
 replace hbv := hbv.k0 hk1
 replace hV := hV.keep hk1 nk
 replace hK0 := hK0.tn hk1
 have qhbv := hbv
 refine Mr 0 (pt v) qhbv <| Gn [2, 4, 5, 6, 3, 7, 8, 9] [0, 2, 6, 7] <| Hg (tally_spec F v s b _ (hV).1) ?_
 rintro _ w7 ⟨rfl, hk8⟩
 have K9 := K6.tr (Keep.ofNone hk8)
 refine ⟨_, rfl, K9, ?_⟩
 have hzK9 := Keep.size K9
 have hsz10 := Keep.size hk8
 replace hV := hV.keep hk8 nk
 replace hK0 := hK0.tn hk8
 refine Mr 0 (pt v) qhbv <| Gn [6, 3, 7, 8, 9] [8, 10, 11] <| Jk (tally_spec F v s a _ (hV).1) fun w11 hk12 _ => ?_
 replace hK0 := hK0.tn hk12
 exact Gn [8, 9] [9, 13] <| Jq (compare_spec ((tallyT s b).a) ((tallyT s a).a) _) <| Gn [] [5] <| GI_end <| X_then <| Rr (nt (cmpI ((tallyT s b).a) ((tallyT s a).a))) ⟨rfl, hK0⟩
end Go.Al
