/-
  Put together out of 9 texts: New. Walks of the laws of refer: the document's answers. Calls; which of them may be. What calls do. Walks of package act: a spend. Walks of package act: a batch. Walks of package act: a call. Walks of package act: Do. Walks of the laws of act: tracks.
-/
import Derived.Test.YtcaiibbhnalffaaGreatActNestsB3
set_option maxRecDepth 10000
namespace Go.Al
open Go Go.RowKit Go.Proofs
theorem r4In_spec (n lo hi : Int) (w : World) : Calls Tryz.prog 102 #[nt n, nt lo, nt hi] w fun e w' => e = .returned (.bool (decide (lo ≤ n ∧ n ≤ hi))) ∧ w' = w := by
 refine eV ?_
 refine Vr <| On 1 [0, 1, 2] <| Oer <| On 4 [0, 2, 10] ?_
 by_cases hg1 : n ≥ lo
 ·
  exact Dt 10 hg1 <| Oen [6] <| Rr (.bool (decide (n ≤ hi))) ⟨by congr 2; simp only [Bool.decide_and]; by_cases h1 : lo ≤ n <;> simp [h1] <;> omega, rfl⟩
 exact Df 10 hg1 <| Oen [6] <| Rr (.bool false) ⟨by congr 2; simp only [Bool.decide_and]; by_cases h1 : lo ≤ n <;> simp [h1] <;> omega, rfl⟩
theorem r10In_spec (n lo hi : Int) (w : World) : Calls Tryz.prog 73 #[nt n, nt lo, nt hi] w fun e w' => e = .returned (.bool (decide (lo ≤ n ∧ n ≤ hi))) ∧ w' = w := by
 refine eV ?_
 refine Vr <| On 1 [0, 1, 2] <| Oer <| On 4 [0, 2, 10] ?_
 by_cases hg1 : n ≥ lo
 ·
  exact Dt 10 hg1 <| Oen [6] <| Rr (.bool (decide (n ≤ hi))) ⟨by congr 2; simp only [Bool.decide_and]; by_cases h1 : lo ≤ n <;> simp [h1] <;> omega, rfl⟩
 exact Df 10 hg1 <| Oen [6] <| Rr (.bool false) ⟨by congr 2; simp only [Bool.decide_and]; by_cases h1 : lo ≤ n <;> simp [h1] <;> omega, rfl⟩
theorem r4Is_spec (c : Crv) (w : World) : Calls Tryz.prog 74 #[.agg c.cells.toArray] w fun e w' => e = .returned (.bool (decide (okCrv c))) ∧ Keep none_ w w' := by
 have hK0 : Keep none_ w w := Keep.refl _ _
 have hzhK0 := Keep.size hK0
 refine eV ?_
 refine Vr <| OI_box 78 (.tmp 0) (.agg (Crv.cells c).toArray) (Crv.cells c) (some 1) (by kernel_rfl) (by kernel_rfl) rfl ?_
 intro b1 w1 e1 hb1 k1 z1
 have hsz2 := Keep.size k1
 replace hK0 := hK0.tn k1
 have hb1lt := hb1.lt
 refine On 2 [1] <| Oe <| V_seq <| Vr <| On 1 [1, 3] <| Lr 0 (nt c.k) hb1 <| Oe <| V_block <| Vn [1, 4, 5] <| Vi (c.k = 1) (fun hc3 => ?_) (fun hc3 => ?_)
 ·
  refine Vr <| On 1 [1, 7] <| Lr 1 (nt c.a) hb1 <| Kq (r4In_spec c.a 0 1000000000 _) <| On 4 [1, 10] ?_
  by_cases hg7 : (0 : Int) ≤ c.a ∧ c.a ≤ 1000000000
  ·
   refine Dt 10 hg7 <| On 5 [1, 10, 11] <| Lr 2 (nt c.b) hb1 <| On 7 [1, 10, 12, 13] <| Lr 1 (nt c.a) hb1 <| Kq (r4In_spec c.b 0 c.a _) <| On 11 [1, 17] ?_
   by_cases hg11 : (0 : Int) ≤ c.b ∧ c.b ≤ c.a
   ·
    refine Dt 17 hg11 <| On 12 [1, 17, 18] <| Lr 3 (nt c.c) hb1 <| Kq (r4In_spec c.c 1 1000000000 _) <| On 16 [1, 22] ?_
    by_cases hg15 : (1 : Int) ≤ c.c ∧ c.c ≤ 1000000000
    ·
     exact Dt 22 hg15 <| On 17 [22, 23] <| Lr 4 (nt c.d) hb1 <| Oen [2] <| V_ret <| X_ret_block <| X_ret_then <| Xr (.bool (decide (c.d = 0))) ⟨by congr 2; first | (apply Eq.symm; (try simp only [decide_eq_true_eq]); (try simp only [decide_eq_false_iff_not]); unfold okCrv fallsC; simp_all <;> omega) | (rw [decide_eq_decide]; unfold okCrv fallsC; simp_all <;> omega), hK0⟩
    exact Df 22 hg15 <| Oen [2] <| V_ret <| X_ret_block <| X_ret_then <| Xr (.bool false) ⟨by congr 2; first | (apply Eq.symm; (try simp only [decide_eq_true_eq]); (try simp only [decide_eq_false_iff_not]); unfold okCrv fallsC; simp_all <;> omega) | (rw [decide_eq_decide]; unfold okCrv fallsC; simp_all <;> omega), hK0⟩
   exact Df 17 hg11 <| Oen [2] <| V_ret <| X_ret_block <| X_ret_then <| Xr (.bool false) ⟨by congr 2; first | (apply Eq.symm; (try simp only [decide_eq_true_eq]); (try simp only [decide_eq_false_iff_not]); unfold okCrv fallsC; simp_all <;> omega) | (rw [decide_eq_decide]; unfold okCrv fallsC; simp_all <;> omega), hK0⟩
  exact Df 10 hg7 <| Oen [2] <| V_ret <| X_ret_block <| X_ret_then <| Xr (.bool false) ⟨by congr 2; first | (apply Eq.symm; (try simp only [decide_eq_true_eq]); (try simp only [decide_eq_false_iff_not]); unfold okCrv fallsC; simp_all <;> omega) | (rw [decide_eq_decide]; unfold okCrv fallsC; simp_all <;> omega), hK0⟩
 refine Vn [1, 4, 27] <| Vi (c.k = 2) (fun hc16 => ?_) (fun hc16 => ?_)
 ·
  refine Vr <| On 1 [1, 29] <| Lr 1 (nt c.a) hb1 <| Kq (r4In_spec c.a 0 1000000000 _) <| On 4 [1, 32] ?_
  by_cases hg20 : (0 : Int) ≤ c.a ∧ c.a ≤ 1000000000
  ·
   refine Dt 32 hg20 <| On 5 [1, 32, 33] <| Lr 2 (nt c.b) hb1 <| On 7 [1, 32, 34, 35] <| Lr 1 (nt c.a) hb1 <| Kq (r4In_spec c.b 0 c.a _) <| On 11 [1, 39] ?_
   by_cases hg24 : (0 : Int) ≤ c.b ∧ c.b ≤ c.a
   ·
    refine Dt 39 hg24 <| On 12 [1, 39, 40] <| Lr 3 (nt c.c) hb1 <| Kq (r4In_spec c.c 1 1000000000 _) <| On 16 [1, 44] ?_
    by_cases hg28 : (1 : Int) ≤ c.c ∧ c.c ≤ 1000000000
    ·
     exact Dt 44 hg28 <| On 17 [44, 45] <| Lr 4 (nt c.d) hb1 <| Kq (r4In_spec c.d 1 1000000000 _) <| Oen [2] <| V_ret <| X_ret_block <| X_ret_then <| Xr (.bool (decide ((1 : Int) ≤ c.d ∧ c.d ≤ 1000000000))) ⟨by congr 2; first | (apply Eq.symm; (try simp only [decide_eq_true_eq]); (try simp only [decide_eq_false_iff_not]); unfold okCrv fallsC; simp_all <;> omega) | (rw [decide_eq_decide]; unfold okCrv fallsC; simp_all <;> omega), hK0⟩
    exact Df 44 hg28 <| Oen [2] <| V_ret <| X_ret_block <| X_ret_then <| Xr (.bool false) ⟨by congr 2; first | (apply Eq.symm; (try simp only [decide_eq_true_eq]); (try simp only [decide_eq_false_iff_not]); unfold okCrv fallsC; simp_all <;> omega) | (rw [decide_eq_decide]; unfold okCrv fallsC; simp_all <;> omega), hK0⟩
   exact Df 39 hg24 <| Oen [2] <| V_ret <| X_ret_block <| X_ret_then <| Xr (.bool false) ⟨by congr 2; first | (apply Eq.symm; (try simp only [decide_eq_true_eq]); (try simp only [decide_eq_false_iff_not]); unfold okCrv fallsC; simp_all <;> omega) | (rw [decide_eq_decide]; unfold okCrv fallsC; simp_all <;> omega), hK0⟩
  exact Df 32 hg20 <| Oen [2] <| V_ret <| X_ret_block <| X_ret_then <| Xr (.bool false) ⟨by congr 2; first | (apply Eq.symm; (try simp only [decide_eq_true_eq]); (try simp only [decide_eq_false_iff_not]); unfold okCrv fallsC; simp_all <;> omega) | (rw [decide_eq_decide]; unfold okCrv fallsC; simp_all <;> omega), hK0⟩
 refine Vn [1, 49] <| Vi (c.k = 3) (fun hc32 => ?_) (fun hc32 => ?_)
 ·
  refine Vr <| On 1 [1, 51] <| Lr 1 (nt c.a) hb1 <| Kq (r4In_spec c.a 0 1000000000 _) <| On 4 [1, 54] ?_
  by_cases hg36 : (0 : Int) ≤ c.a ∧ c.a ≤ 1000000000
  ·
   refine Dt 54 hg36 <| On 5 [1, 54, 55] <| Lr 2 (nt c.b) hb1 <| Kq (r4In_spec c.b 1 1000000000 _) <| On 9 [1, 59] ?_
   by_cases hg40 : (1 : Int) ≤ c.b ∧ c.b ≤ 1000000000
   ·
    refine Dt 59 hg40 <| On 10 [1, 59, 60] <| Lr 3 (nt c.c) hb1 <| Kq (r4In_spec c.c 0 1000000000 _) <| On 14 [1, 64] ?_
    by_cases hg44 : (0 : Int) ≤ c.c ∧ c.c ≤ 1000000000
    ·
     exact Dt 64 hg44 <| On 15 [64, 65] <| Lr 4 (nt c.d) hb1 <| Oen [2] <| V_ret <| X_ret_block <| X_ret_then <| Xr (.bool (decide (c.d = 0))) ⟨by congr 2; first | (apply Eq.symm; (try simp only [decide_eq_true_eq]); (try simp only [decide_eq_false_iff_not]); unfold okCrv fallsC; simp_all <;> omega) | (rw [decide_eq_decide]; unfold okCrv fallsC; simp_all <;> omega), hK0⟩
    exact Df 64 hg44 <| Oen [2] <| V_ret <| X_ret_block <| X_ret_then <| Xr (.bool false) ⟨by congr 2; first | (apply Eq.symm; (try simp only [decide_eq_true_eq]); (try simp only [decide_eq_false_iff_not]); unfold okCrv fallsC; simp_all <;> omega) | (rw [decide_eq_decide]; unfold okCrv fallsC; simp_all <;> omega), hK0⟩
   exact Df 59 hg40 <| Oen [2] <| V_ret <| X_ret_block <| X_ret_then <| Xr (.bool false) ⟨by congr 2; first | (apply Eq.symm; (try simp only [decide_eq_true_eq]); (try simp only [decide_eq_false_iff_not]); unfold okCrv fallsC; simp_all <;> omega) | (rw [decide_eq_decide]; unfold okCrv fallsC; simp_all <;> omega), hK0⟩
  exact Df 54 hg36 <| Oen [2] <| V_ret <| X_ret_block <| X_ret_then <| Xr (.bool false) ⟨by congr 2; first | (apply Eq.symm; (try simp only [decide_eq_true_eq]); (try simp only [decide_eq_false_iff_not]); unfold okCrv fallsC; simp_all <;> omega) | (rw [decide_eq_decide]; unfold okCrv fallsC; simp_all <;> omega), hK0⟩
 exact V_skip <| X_block <| X_then <| Vn [2] <| Rr (.bool false) ⟨by congr 2; first | (apply Eq.symm; (try simp only [decide_eq_true_eq]); (try simp only [decide_eq_false_iff_not]); unfold okCrv fallsC; simp_all <;> omega) | (rw [decide_eq_decide]; unfold okCrv fallsC; simp_all <;> omega), hK0⟩
theorem r10Is_spec (x : Trk) (w : World) : Calls Tryz.prog 47 #[.agg x.cells.toArray] w fun e w' => e = .returned (.bool (decide (okTrk x))) ∧ Keep none_ w w' := by
 have hK0 : Keep none_ w w := Keep.refl _ _
 have hzhK0 := Keep.size hK0
 refine eV ?_
 refine Vr <| OI_box 80 (.tmp 0) (.agg (Trk.cells x).toArray) (Trk.cells x) (some 1) (by kernel_rfl) (by kernel_rfl) rfl ?_
 intro b1 w1 e1 hb1 k1 z1
 have hsz2 := Keep.size k1
 replace hK0 := hK0.tn k1
 have hb1lt := hb1.lt
 refine On 2 [1] <| Oer <| On 1 [1, 3] <| Lr 0 (nt x.most) hb1 <| Kq (r10In_spec x.most 1 12 _) <| On 4 [1, 6] ?_
 by_cases hg6 : (1 : Int) ≤ x.most ∧ x.most ≤ 12
 ·
  refine Dt 6 hg6 <| On 5 [1, 6, 7] <| Lr 1 (nt x.deposit) hb1 <| Kq (r10In_spec x.deposit 0 1073741824 _) <| On 9 [1, 11] ?_
  by_cases hg10 : (0 : Int) ≤ x.deposit ∧ x.deposit ≤ 1073741824
  ·
   refine Dt 11 hg10 <| On 10 [1, 11, 12] <| Lr 16 (nt x.cap) hb1 <| Kq (r10In_spec x.cap 0 1073741824 _) <| On 14 [1, 16] ?_
   by_cases hg14 : (0 : Int) ≤ x.cap ∧ x.cap ≤ 1073741824
   ·
    refine Dt 16 hg14 <| On 15 [1, 16, 17] <| Lr 2 (nt x.prepare) hb1 <| Kq (r10In_spec x.prepare 0 1000 _) <| On 19 [1, 21] ?_
    by_cases hg18 : (0 : Int) ≤ x.prepare ∧ x.prepare ≤ 1000
    ·
     refine Dt 21 hg18 <| On 20 [1, 21, 22] <| Lr 4 (nt x.confirm) hb1 <| Kq (r10In_spec x.confirm 0 1000 _) <| On 24 [1, 26] ?_
     by_cases hg22 : (0 : Int) ≤ x.confirm ∧ x.confirm ≤ 1000
     ·
      refine Dt 26 hg22 <| On 25 [1, 26, 27] <| Lr 5 (nt x.enact) hb1 <| Kq (r10In_spec x.enact 0 1000 _) <| On 29 [1, 31] ?_
      by_cases hg26 : (0 : Int) ≤ x.enact ∧ x.enact ≤ 1000
      ·
       refine Dt 31 hg26 <| On 30 [1, 31, 32] <| Lr 3 (nt x.decision) hb1 <| Kq (r10In_spec x.decision 1 1000 _) <| On 34 [1, 36] ?_
       by_cases hg30 : (1 : Int) ≤ x.decision ∧ x.decision ≤ 1000
       ·
        refine Dt 36 hg30 <| On 35 [1, 36, 37] <| La 6 (Crv.cells x.app) 5 hb1 rfl rfl <| Kk (r4Is_spec x.app _) fun w31 hk32 _ => ?_
        replace hb1 := hb1.k0 hk32
        replace hK0 := hK0.tn hk32
        refine On 39 [1, 41] ?_
        by_cases hg34 : okCrv x.app
        ·
         refine Dt 41 hg34 <| On 40 [1, 41, 42] <| La 11 (Crv.cells x.sup) 5 hb1 rfl rfl <| Kk (r4Is_spec x.sup _) fun w35 hk36 _ => ?_
         replace hb1 := hb1.k0 hk36
         replace hK0 := hK0.tn hk36
         refine On 44 [1, 46] ?_
         by_cases hg38 : okCrv x.sup
         ·
          exact Dt 46 hg38 <| On 45 [46, 47] <| Lr 17 (nt x.rank) hb1 <| Kq (r10In_spec x.rank 0 2 _) <| Oen [2] <| Rr (.bool (decide ((0 : Int) ≤ x.rank ∧ x.rank ≤ 2))) ⟨by congr 2; first | (apply Eq.symm; (try simp only [decide_eq_true_eq]); (try simp only [decide_eq_false_iff_not]); unfold okTrk; simp_all <;> omega) | (rw [decide_eq_decide]; unfold okTrk; simp_all <;> omega), hK0⟩
         exact Df 46 hg38 <| Oen [2] <| Rr (.bool false) ⟨by congr 2; first | (apply Eq.symm; (try simp only [decide_eq_true_eq]); (try simp only [decide_eq_false_iff_not]); unfold okTrk; simp_all <;> omega) | (rw [decide_eq_decide]; unfold okTrk; simp_all <;> omega), hK0⟩
        exact Df 41 hg34 <| Oen [2] <| Rr (.bool false) ⟨by congr 2; first | (apply Eq.symm; (try simp only [decide_eq_true_eq]); (try simp only [decide_eq_false_iff_not]); unfold okTrk; simp_all <;> omega) | (rw [decide_eq_decide]; unfold okTrk; simp_all <;> omega), hK0⟩
       exact Df 36 hg30 <| Oen [2] <| Rr (.bool false) ⟨by congr 2; first | (apply Eq.symm; (try simp only [decide_eq_true_eq]); (try simp only [decide_eq_false_iff_not]); unfold okTrk; simp_all <;> omega) | (rw [decide_eq_decide]; unfold okTrk; simp_all <;> omega), hK0⟩
      exact Df 31 hg26 <| Oen [2] <| Rr (.bool false) ⟨by congr 2; first | (apply Eq.symm; (try simp only [decide_eq_true_eq]); (try simp only [decide_eq_false_iff_not]); unfold okTrk; simp_all <;> omega) | (rw [decide_eq_decide]; unfold okTrk; simp_all <;> omega), hK0⟩
     exact Df 26 hg22 <| Oen [2] <| Rr (.bool false) ⟨by congr 2; first | (apply Eq.symm; (try simp only [decide_eq_true_eq]); (try simp only [decide_eq_false_iff_not]); unfold okTrk; simp_all <;> omega) | (rw [decide_eq_decide]; unfold okTrk; simp_all <;> omega), hK0⟩
    exact Df 21 hg18 <| Oen [2] <| Rr (.bool false) ⟨by congr 2; first | (apply Eq.symm; (try simp only [decide_eq_true_eq]); (try simp only [decide_eq_false_iff_not]); unfold okTrk; simp_all <;> omega) | (rw [decide_eq_decide]; unfold okTrk; simp_all <;> omega), hK0⟩
   exact Df 16 hg14 <| Oen [2] <| Rr (.bool false) ⟨by congr 2; first | (apply Eq.symm; (try simp only [decide_eq_true_eq]); (try simp only [decide_eq_false_iff_not]); unfold okTrk; simp_all <;> omega) | (rw [decide_eq_decide]; unfold okTrk; simp_all <;> omega), hK0⟩
  exact Df 11 hg10 <| Oen [2] <| Rr (.bool false) ⟨by congr 2; first | (apply Eq.symm; (try simp only [decide_eq_true_eq]); (try simp only [decide_eq_false_iff_not]); unfold okTrk; simp_all <;> omega) | (rw [decide_eq_decide]; unfold okTrk; simp_all <;> omega), hK0⟩
 exact Df 6 hg6 <| Oen [2] <| Rr (.bool false) ⟨by congr 2; first | (apply Eq.symm; (try simp only [decide_eq_true_eq]); (try simp only [decide_eq_false_iff_not]); unfold okTrk; simp_all <;> omega) | (rw [decide_eq_decide]; unfold okTrk; simp_all <;> omega), hK0⟩
def okTs (ts : List Trk) : Prop := 1 ≤ ts.length ∧ ts.length ≤ 4 ∧ ∀ t ∈ ts, okTrk t
instance (ts : List Trk) : Decidable (okTs ts) := by unfold okTs; infer_instance
theorem rbad_spec (x : Trk) (w : World) : Calls Tryz.prog 41 #[.agg x.cells.toArray] w fun e w' => e = .returned (.bool (!decide (okTrk x))) ∧ Keep none_ w w' := by
 have hK0 : Keep none_ w w := Keep.refl _ _
 have hzhK0 := Keep.size hK0
 refine eV ?_
 refine Vr <| OI_box 80 (.tmp 0) (.agg (Trk.cells x).toArray) (Trk.cells x) (some 1) (by kernel_rfl) (by kernel_rfl) rfl ?_
 intro b1 w1 e1 hb1 k1 z1
 have hsz2 := Keep.size k1
 replace hK0 := hK0.tn k1
 have hb1lt := hb1.lt
 refine On 2 [1] <| Oer <| La 0 (Trk.cells x) 18 hb1 (take_all (Trk.len _)) (Trk.len _) <| Kk (trkIs_spec x _) fun w3 hk4 _ => ?_
 replace hK0 := hK0.tn hk4
 exact Oen [2] <| Rr (.bool (!(decide (okTrk x)))) ⟨rfl, hK0⟩
theorem ixf_spec (A : Option Addr) (cap : Nat) (ts : List Trk) (w : World) (hA : SlT w 18 Trk.cells A cap ts) (hok : ∀ t ∈ ts, okTrk t) (hn4 : ts.length ≤ 4) : Calls Tryz.prog 72 #[.slice A ts.length cap, .func (.func 41) #[] #[]] w fun e w' => e = .returned (nt (-1)) ∧ Keep none_ w w' := by
 have hAlt := SlT.lt hA
 have hK0 : Keep none_ w w := Keep.refl _ _
 have hzhK0 := Keep.size hK0
 refine eV ?_
 refine Vr <| On 1 [0, 1] <| Oe <| V_seq <| Vn [0, 1, 7, 8] <| V_block <| Vp [(0, .slice A ts.length cap), (1, .func (.func 41) #[] #[]), (7, nt (ts.length : Int)), (8, nt 0)] <| V_loop (fun k wI e => ∃ i : Nat, (k + i = ts.length) ∧ Keep none_ w wI ∧ e = [(0, .slice A ts.length cap), (1, .func (.func 41) #[] #[]), (7, nt (ts.length : Int)), (8, nt (i : Int))]) ts.length ⟨0, rfl, Keep.refl _ _, rfl⟩ ?_
 rintro k2 w1 _ ⟨i, hki, hk3, rfl⟩
 have hsz4 := Keep.size hk3
 replace hA := hA.keep0 hk3
 replace hK0 := hK0.tn hk3
 have hzhk3 := Keep.size hk3
 refine Vn [0, 1, 7, 8, 9] <| V_seq <| Vi ((i : Int) < (ts.length : Int)) (fun hc5 => ?_) (fun hc5 => ?_)
 ·
  refine Vsk <| V_seq <| V_block <| Vr <| On 2 [0, 1, 5, 7, 8] <| Oer <| On 3 [0, 1, 5, 7, 8, 11, 12, 13] ?_
  obtain ⟨b6, o6, L6, T6, rfl, hat6⟩ := SlT.open_ hA (by first | omega | (simp only [List.length_map]; omega) | (simp; done) | (simp; omega))
  have hb6lt := hat6.blk.lt
  have hob7 := hAlt b6 ⟨_, rfl, rfl⟩
  refine Oi (b := b6) (o := o6) (len := ts.length) (cap := cap) (j := i) (some 14) 67 (.tmp 12) (.tmp 13) 80 18 144 .i64 ?_
  obtain ⟨x8, hx9⟩ : ∃ x, ts[i]? = some x := ⟨_, List.getElem?_eq_getElem (by first | omega | (simp only [List.length_map]; omega))⟩
  have hokx : okTrk x8 := hok x8 (List.mem_of_getElem? hx9)
  refine La (o6 + i * 18) (Trk.cells x8) 18 hat6.blk (At.elem' hat6 (es_at hx9)) (At.len hat6 (es_at hx9)) <| Kk (rbad_spec x8 _) fun w10 hk11 _ => ?_
  replace hk3 := hk3.tn hk11
  refine Oe <| Vp [(0, sl_ b6 o6 ts.length cap), (1, .func (.func 41) #[] #[]), (5, nt (i : Int)), (7, nt (ts.length : Int)), (8, nt (i : Int)), (16, .bool (!(decide (okTrk x8))))] <| Vq (u := .bool (!(decide (okTrk x8)))) (v := .bool false) 16 (by rw [decide_eq_true hokx]; rfl) <| Vf <| V_skip <| X_block <| X_then <| V_region ?_
  have hw14 : IntKind.i64.wrap ((i : Int) + 1) = ((i + 1 : Nat) : Int) := (wrap64_id (by omega) (by omega)).trans (by omega)
  refine On 1 [0, 1, 7, 18] <| Oq (u := nt (IntKind.i64.wrap ((i : Int) + 1))) (v := nt ((i + 1 : Nat) : Int)) 18 (by rw [hw14]) <| Os 2 [(0, sl_ b6 o6 ts.length cap), (1, .func (.func 41) #[] #[]), (7, nt (ts.length : Int)), (8, nt ((i + 1 : Nat) : Int))] <| OI_end rfl ?_
  exact V_again (k2 - 1) (by omega) [(0, sl_ b6 o6 ts.length cap), (1, .func (.func 41) #[] #[]), (7, nt (ts.length : Int)), (8, nt ((i + 1 : Nat) : Int))] rfl ⟨i + 1, by omega, hk3, rfl⟩
 exact V_exit <| X_exit_then <| X_exit_then <| X_exit_here <| X_then <| Vn [4] <| Rr (nt (-1)) ⟨rfl, hK0⟩
theorem ctf_spec (A : Option Addr) (cap : Nat) (ts : List Trk) (w : World) (hA : SlT w 18 Trk.cells A cap ts) (hok : ∀ t ∈ ts, okTrk t) (hn4 : ts.length ≤ 4) : Calls Tryz.prog 43 #[.slice A ts.length cap, .func (.func 41) #[] #[]] w (rk_ w (.bool false)) := by
 have hAlt := SlT.lt hA
 have hK0 : Keep none_ w w := Keep.refl _ _
 have hzhK0 := Keep.size hK0
 refine eV ?_
 refine Vr <| On 1 [0, 1] <| Oer <| On 2 [5, 6] <| Kk (ixf_spec A cap ts _ hA hok hn4) fun w1 hk2 _ => ?_
 replace hK0 := hK0.tn hk2
 exact Oen [4] <| Rr (.bool false) ⟨rfl, hK0⟩
theorem tclone_nil (w : World) : Calls Tryz.prog 44 #[.slice none 0 0] w fun e w' => e = .returned (.slice none 0 0) ∧ w' = w := by
 refine eV ?_
 refine Vr <| On 1 [0] <| Oe <| V_seq <| Vn [0, 4] <| Vo <| Vs [(2, .slice none 0 0)] <| Rt ?_
 exact X_return _ rfl ⟨rfl, rfl⟩
theorem tclone_at (b o cap : Nat) (L : List Value) (T : TypeId) (xs : List Trk) (w : World) (h : At w b o L T 18 cap (xs.map Trk.cells)) (hn : xs.length ≤ 1000000) : Calls Tryz.prog 44 #[sl_ b o xs.length cap] w fun e w' => ∃ A' cap', e = .returned (.slice A' xs.length cap') ∧ SlT w' 18 Trk.cells A' cap' xs ∧ Keep none_ w w' ∧ (∀ k, inA A' k → w.heap.size ≤ k) := by
 have hblt := h.blk.lt
 have hK0 : Keep none_ w w := Keep.refl _ _
 have hzhK0 := Keep.size hK0
 refine eV ?_
 refine Vr <| On 1 [0] <| Oe <| V_seq <| Vn [0, 4] <| Vf <| Vsk <| Vr <| OI_slit (E := 80) (zv := .agg #[nt 0, nt 0, nt 0, nt 0, nt 0, nt 0, nt 0, nt 0, nt 0, nt 0, nt 0, nt 0, nt 0, nt 0, nt 0, nt 0, nt 0, nt 0]) (sz := 18) (by_ := 144) 67 0 #[] [] [] (some 5) (by kernel_rfl) (by kernel_rfl) (by kernel_rfl) (by omega) rfl (by omega) (by intro v hv; cases hv) (by kernel_rfl) rfl ?_
 intro b1 w1 e1 hb1 k1 z1
 have hsz2 := Keep.size k1
 replace h := h.k0 k1
 replace hK0 := hK0.tn k1
 have hb1lt := hb1.lt
 refine Os 2 [(5, sl_ b1 0 0 0), (6, sl_ b o xs.length cap)] <| OI_append (t := 67) (at2 := 67) (E := 80) (E2 := 80) (sz := 18) (by_ := 144) (zv := .agg #[nt 0, nt 0, nt 0, nt 0, nt 0, nt 0, nt 0, nt 0, nt 0, nt 0, nt 0, nt 0, nt 0, nt 0, nt 0, nt 0, nt 0, nt 0]) (m := 0) (k := xs.length) (.tmp 5) (.tmp 6) (sl_ b1 0 0 0) (sl_ b o xs.length cap) (some 7) (by kernel_rfl) (by kernel_rfl) (by kernel_rfl) (by kernel_rfl) (by kernel_rfl) (by kernel_rfl) (by kernel_rfl) (SlT.slr (slt_blk (f := Trk.cells) (xs := []) hb1 Trk.len rfl)) (SlT.slr (At.slt h)) (one_flat Trk.one) (by omega) (by omega) (by omega) (by omega) ?_
 intro v w9 hap
 obtain ⟨A9, cap9, rfl, h9, hin⟩ := SlT.of (xs := xs) hap.holds (by omega) (by simp) (fun x _ => Trk.len x)
 have hk9 : Keep (only b1) w1 w9 := hap.keep
 have hown : ∀ k, inA A9 k → w.heap.size ≤ k := fun k hk => by rcases hap.own k (hin k hk) with h | h; (have h : k = b1 := h; omega); omega
 have hsz3 := Keep.size hk9
 replace hK0 := Keep.fr hK0 hk9
 refine Op_ [(7, .slice A9 (0 + xs.length) cap9)] <| Oq (u := .slice A9 (0 + xs.length) cap9) (v := .slice A9 xs.length cap9) 7 (by rw [Nat.zero_add]) <| Ose [(2, .slice A9 xs.length cap9)] <| V_ret ?_
 exact X_return _ rfl ⟨A9, cap9, rfl, h9, hK0, hown⟩
theorem tclone_spec (A : Option Addr) (cap : Nat) (xs : List Trk) (w : World) (hA : SlT w 18 Trk.cells A cap xs) (hn : xs.length ≤ 1000000) : Calls Tryz.prog 44 #[.slice A xs.length cap] w fun e w' => ∃ A' cap', e = .returned (.slice A' xs.length cap') ∧ SlT w' 18 Trk.cells A' cap' xs ∧ Keep none_ w w' ∧ (∀ k, inA A' k → w.heap.size ≤ k) := by
  rcases Nat.eq_zero_or_pos xs.length with h0 | h0
  · obtain rfl := List.length_eq_zero_iff.1 h0
    rcases hA with ⟨rfl, rfl, _⟩ | ⟨b, o, L, T, rfl, h1, h2, h3, h4, h5⟩
    · exact (tclone_nil w).mono (by rintro e w' ⟨rfl, rfl⟩; exact ⟨none, 0, rfl, SlT.nil _ _ _, Keep.refl _ _, fun k hk => (inA_none hk).elim⟩)
    · exact tclone_at b o cap L T [] w ⟨h1, h2, h3, h4, h5⟩ hn
  · obtain ⟨b, o, L, T, rfl, h⟩ := hA.open_ h0
    exact tclone_at b o cap L T xs w h hn
theorem rnw_spec (A : Option Addr) (cap : Nat) (ts : List Trk) (w : World) (hA : SlT w 18 Trk.cells A cap ts) (hok : okTs ts) : Calls Tryz.prog 19 #[.slice A ts.length cap] w fun e w' => ∃ r g H, e = .returned (.tuple #[pt r, nt 0]) ∧ Rfr H w' r g ts [] ∧ Keep none_ w w' ∧ (∀ q, H q → w.heap.size ≤ q) := by
 have hAlt := SlT.lt hA
 have hok1 := hok.1
 have hok2 := hok.2.1
 have hK0 : Keep none_ w w := Keep.refl _ _
 have hzhK0 := Keep.size hK0
 refine eV ?_
 refine Vr <| On 2 [0] <| Oer <| On 1 [0, 4] <| Oe <| V_seq <| Vr <| On 4 [0, 4, 8] <| Oq (u := .bool (decide ((ts.length : Int) = 0))) (v := .bool false) 8 (by rw [decide_eq_false (by omega : ¬ ((ts.length : Int) = 0))]) <| On 9 [0, 4, 13] <| Oq (u := .bool (decide ((ts.length : Int) > 4))) (v := .bool false) 13 (by rw [decide_eq_false (by omega : ¬ ((ts.length : Int) > 4))]) <| On 11 [0, 13, 14, 15] <| Kk (ctf_spec A cap ts _ hA hok.2.2 (by omega)) fun w3 hk4 _ => ?_
 replace hA := hA.keep0 hk4
 replace hK0 := hK0.tn hk4
 refine Oen [0, 17] <| Vf <| Vsk <| Vr <| On 1 [18] <| Kg (tclone_spec A cap ts _ hA (by omega)) ?_
 rintro _ w6 ⟨A8, cap8, rfl, hA8, hk7, ow8⟩
 refine ⟨_, rfl, ?_⟩
 have hsz9 := Keep.size hk7
 replace hK0 := hK0.tn hk7
 have lt8 := SlT.lt hA8
 refine Kg (GQ.new_grd _) ?_
 rintro _ w12 ⟨g14, F15, rfl, ho16, hk13, hge17⟩
 refine ⟨_, rfl, ?_⟩
 have hsz18 := Keep.size hk13
 replace hK0 := hK0.tn hk13
 have own19 : ∀ q, F15 q → w6.heap.size ≤ q := fun q hq => by have h1 := hge17 q hq; omega
 have lt20 := GQ.Grd.lt ho16
 have dis21 : ∀ q, F15 q → ¬ inA A q := fun q h1 h2 => by have h3 := hge17 q h1; have h4 := hAlt q h2; omega
 have dis22 : ∀ q, F15 q → ¬ inA A8 q := fun q h1 h2 => by have h3 := hge17 q h1; have h4 := lt8 q h2; omega
 have hg14lt : g14 < w12.heap.size := GQ.Grd.lt ho16 _ (GQ.Grd.at_ ho16)
 have hg14ge := hge17 _ (GQ.Grd.at_ ho16)
 refine On 4 [21] <| Bx 90 [.slice A8 ts.length cap8, pt g14] ?_
 intro b23 w23 e23 hb23 k23 z23
 have hsz24 := Keep.size k23
 replace hA8 := hA8.keep0 (hk13.tr k23)
 replace hK0 := hK0.tn k23
 replace ho16 := GQ.Grd.keep ho16 k23 nk
 have hb23lt := hb23.lt
 refine Ose [(2, pt b23), (3, nt 0)] <| V_ret ?_
 exact X_return _ rfl ⟨b23, g14, (fun q => F15 q ∨ inA A8 q ∨ q = b23), rfl, ⟨⟨by omega, hok.2.2, by simp, fun x hx => by cases hx⟩, fun q hq => by rcases hq with h | h | h; (have h1 := lt20 q h; omega); (have h1 := lt8 q h; omega); omega, F15, A8, cap8, ⟨hb23, hA8, ho16, (fun q h1 h2 => dis22 q h2 h1), (fun q h => by have h1 := ow8 q h; have h2 := lt8 q h; omega), (fun q h => by have h1 := lt20 q h; omega)⟩, .inr (.inr rfl), fun q h => .inl h, fun q h => .inr (.inl h)⟩, hK0, fun q hq => by rcases hq with h | h | h; (have h1 := own19 q h; omega); (have h1 := ow8 q h; omega); omega⟩
end Go.Al

namespace Go.Al
open Go Go.RowKit Go.Proofs
theorem rnew6_weak (A : Option Addr) (cap : Nat) (fs : List Int) (w : World) (hA0 : ArgT w 1 intc A cap fs) (hn : fs.length ≤ 100000) : Calls Tryz.prog 18 #[.slice A fs.length cap] w fun e w' => ∃ pv n, e = .returned (.tuple #[.pointer pv, nt n]) ∧ Keep none_ w w' := by
 have hA := hA0
 have hK0 : Keep none_ w w := Keep.refl _ _
 have hzhK0 := Keep.size hK0
 refine eV ?_
 refine Vr <| On 2 [0] <| Oe <| V_seq <| Vn [0, 9] <| Vi ((fs.length : Int) > 10) (fun hc1 => ?_) (fun hc1 => ?_)
 ·
  exact Vn [2, 3] <| Rt <| Xr (.tuple #[.pointer none, nt 1]) ⟨_, _, rfl, hK0⟩
 refine Vsk <| Vr <| OI_make (E := 114) (sz := 3) (by_ := 40) (m := 10) (kd := .i64) (zv := .agg #[nt 0, nt 0, .slice none 0 0]) 109 (.const (Value.int IntKind.i64 10)) (.const (Value.int IntKind.i64 10)) ((List.replicate 10 [nt 0, nt 0, .slice none 0 0]).flatten) (some 10) (by kernel_rfl) (by kernel_rfl) (by kernel_rfl) (by kernel_rfl) (by kernel_rfl) (by decide) (by decide) (by kernel_rfl) ?_
 intro b2 w2 e2 hb2 k2 z2
 have hsz3 := Keep.size k2
 replace hA := ArgT.keep0 hA k2
 replace hK0 := hK0.tn k2
 have hb2lt := hb2.lt
 refine On 2 [0, 11] <| Bx 111 [sl_ b2 0 10 10] ?_
 intro b4 w4 e4 hb4 k4 z4
 have hsz5 := Keep.size k4
 replace hb2 := hb2.k0 k4
 replace hA := ArgT.keep0 hA k4
 replace hK0 := hK0.tn k4
 have hb4lt := hb4.lt
 refine On 4 [0, 4] <| Oer <| On 1 [0, 4, 5] <| Oe <| V_seq <| Vn [0, 4, 5, 6] <| V_block <| Vp [(0, .slice A fs.length cap), (4, pt b4), (5, nt 0), (6, nt 0)] <| V_loop (fun k wI e => ∃ i : Nat, ∃ s5 : Int, ∃ Lx : List Value, (k + i = fs.length) ∧ (Blk wI b2 Lx 114) ∧ (Lx.length = 30) ∧ Keep (only b2) w4 wI ∧ e = [(0, .slice A fs.length cap), (4, pt b4), (5, nt s5), (6, nt (i : Int))]) fs.length ⟨0, 0, (List.replicate 10 [nt 0, nt 0, .slice none 0 0]).flatten, by omega, hb2, by decide, Keep.refl _ _, rfl⟩ ?_
 rintro k7 w6 _ ⟨i, s5, Lx, hki, hB, hLx, hk8, rfl⟩
 have hsz9 := Keep.size hk8
 replace hb4 := hb4.k1 hk8
 replace hA := ArgT.keep hA hk8 hA0 (fun k hk hs => by have hs : k = b2 := hs; omega)
 replace hK0 := Keep.fr hK0 hk8
 have hzhk8 := Keep.size hk8
 have hb2lt := hB.lt
 refine V_seq <| Vn [0, 4, 5, 6, 16] <| Vi ((i : Int) < (fs.length : Int)) (fun hc10 => ?_) (fun hc10 => ?_)
 ·
  refine Vsk <| V_seq <| V_block <| V_seq <| Vr <| On 2 [0, 4, 5, 6, 19, 20] ?_
  obtain ⟨b11, o11, L11, rfl, hat11⟩ := ArgT.open_ hA (by first | omega | (simp only [List.length_map]; omega) | (simp; done) | (simp; omega))
  have hb11lt0 := ArgT.lt hA0 (by first | omega | (simp only [List.length_map]; omega) | (simp; done) | (simp; omega))
  have hb11lt := hat11.blk.lt
  refine Oi (b := b11) (o := o11) (len := fs.length) (cap := cap) (j := i) (some 21) 49 (.tmp 19) (.tmp 20) 3 1 8 .i64 ?_
  obtain ⟨x12, hx13⟩ : ∃ x, fs[i]? = some x := ⟨_, List.getElem?_eq_getElem (by first | omega | (simp only [List.length_map]; omega))⟩
  refine OI_cellR 3 (.tmp 21) (o11 + i * 1) (nt x12) (some 22) (by kernel_rfl) (by kernel_rfl) hat11.blk (m := 1) (by kernel_rfl) (AtR.cell0 hat11 (es_at hx13) rfl) <| On 6 [0, 4, 5, 6, 24] ?_
  by_cases hg14 : x12 < 0
  ·
   exact Dt 24 hg14 <| Oen [0, 4, 5, 6, 25, 26, 27, 28, 29, 30] <| Vo <| Vn [2, 3] <| Rt <| X_ret_block <| X_ret_then <| X_ret_then <| X_ret_block <| X_ret_then <| Xr (.tuple #[.pointer none, nt 1]) ⟨_, _, rfl, hK0⟩
  refine Df 24 hg14 <| On 8 [0, 4, 5, 6, 24, 25, 26] <| Oi (b := b11) (o := o11) (len := fs.length) (cap := cap) (j := i) (some 27) 49 (.tmp 25) (.tmp 26) 3 1 8 .i64 <| OI_cellR 3 (.tmp 27) (o11 + i * 1) (nt x12) (some 28) (by kernel_rfl) (by kernel_rfl) hat11.blk (m := 1) (by kernel_rfl) (AtR.cell0 hat11 (es_at hx13) rfl) <| Oen [0, 4, 5, 6, 25, 26, 27, 28, 29, 30] <| Vi (x12 > 1073741824) (fun hc15 => ?_) (fun hc15 => ?_)
  ·
   exact Vn [2, 3] <| Rt <| X_ret_block <| X_ret_then <| X_ret_then <| X_ret_block <| X_ret_then <| Xr (.tuple #[.pointer none, nt 1]) ⟨_, _, rfl, hK0⟩
  refine Vsk <| V_seq <| Vd1 (acts [11]) (only b2) [0, 1, 2, 3, 4, 5, 6, 7, 8, 9, 10, 11] fun w17 hk16 he18 K21 _ => ?_
  replace hB := hB.k0 hk16
  replace hb4 := hb4.k0 hk16
  replace hat11 := hat11.keep hk16 id
  replace hk8 := hk8.tn hk16
  have qhb4 := hb4
  have qhat11 := hat11
  refine Gn [3, 4, 5, 6, 7, 8, 9, 10, 11] [0, 4, 5, 6, 25, 26, 27, 28, 29, 33] <| Mc 0 (sl_ b2 0 10 10) qhb4 (by show ¬ (_ = _); omega) rfl <| Gs [7, 8, 9, 10, 11] [(0, sl_ b11 o11 fs.length cap), (4, pt b4), (5, nt s5), (6, nt (i : Int)), (25, sl_ b11 o11 fs.length cap), (26, nt (i : Int)), (27, .pointer (some ⟨b11, o11 + i * 1, none⟩)), (28, nt x12), (29, .bool (decide (x12 > 1073741824))), (34, sl_ b2 0 10 10), (35, nt (i : Int)), (36, sl_ b11 o11 fs.length cap), (37, nt (i : Int))] <| GI_pure (some 38) (.indexAddr 49 (.tmp 36) (.tmp 37)) (by kernel_rfl) (by kernel_rfl) (pure_idxN (b := b11) (o := o11) (len := fs.length) (cap := cap) (kd := .i64) (j := i) (E := 3) (sz := 1) (by_ := 8) (by kernel_rfl) (by kernel_rfl) (by kernel_rfl) (by omega)) <| GI_cellR 3 (.tmp 38) (o11 + i * 1) (nt x12) (some 39) (by kernel_rfl) (by kernel_rfl) (by kernel_rfl) qhat11.blk (by show ¬ (_ = _); omega) (m := 1) (by kernel_rfl) (AtR.cell0 qhat11 (es_at hx13) rfl) <| GI_pure (some 40) (.indexAddr 109 (.tmp 34) (.tmp 35)) (by kernel_rfl) (by kernel_rfl) (pure_idxN (b := b2) (o := 0) (len := 10) (cap := 10) (kd := .i64) (j := i) (E := 114) (sz := 3) (by_ := 40) (by kernel_rfl) (by kernel_rfl) (by kernel_rfl) (by omega)) <| Gn [11] [0, 4, 5, 6, 25, 26, 27, 28, 29, 39, 41] <| GI_final 11 (by kernel_rfl) (by kernel_rfl) <| OI_set (m := 1) (kd := false) 3 (.tmp 41) (.tmp 39) (0 + i * 3) (nt x12) [nt x12] none (by kernel_rfl) (by kernel_rfl) (by kernel_rfl) hB (by kernel_rfl) (by kernel_rfl) (by kernel_rfl) (by rw [hLx]; show 0 + i * 3 + 1 ≤ 30; omega) (by simp [Value.oneCell']) ?_
  intro w22 hb2_25 hk23 hz24
  replace hb2_25 : Blk w22 b2 (over Lx (0 + i * 3) [nt x12]) 114 := hb2_25
  have hsz26 := Keep.size hk23
  replace hat11 := hat11.keep hk23 (by show ¬ (_ = _); omega)
  replace hk8 := Keep.fr hk8 hk23
  refine Oe <| V_region <| On 3 [0, 4, 6, 25, 26, 27, 28, 29, 42, 43, 44] <| Oi (b := b11) (o := o11) (len := fs.length) (cap := cap) (j := i) (some 45) 49 (.tmp 43) (.tmp 44) 3 1 8 .i64 <| OI_cellR 3 (.tmp 45) (o11 + i * 1) (nt x12) (some 46) (by kernel_rfl) (by kernel_rfl) hat11.blk (m := 1) (by kernel_rfl) (AtR.cell0 hat11 (es_at hx13) rfl) <| On 7 [0, 4, 5, 6, 25, 26, 27, 28, 29] <| OI_end rfl <| X_block <| X_then <| V_region ?_
  have hw27 : IntKind.i64.wrap ((i : Int) + 1) = ((i + 1 : Nat) : Int) := (wrap64_id (by omega) (by omega)).trans (by omega)
  refine On 2 [0, 4, 5, 18, 25, 26, 27, 28, 29] <| Oq (u := nt (IntKind.i64.wrap ((i : Int) + 1))) (v := nt ((i + 1 : Nat) : Int)) 18 (by rw [hw27]) <| Os 3 [(0, sl_ b11 o11 fs.length cap), (4, pt b4), (5, nt (IntKind.i64.wrap (s5 + x12))), (6, nt ((i + 1 : Nat) : Int)), (25, sl_ b11 o11 fs.length cap), (26, nt (i : Int)), (27, .pointer (some ⟨b11, o11 + i * 1, none⟩)), (28, nt x12), (29, .bool (decide (x12 > 1073741824)))] <| OI_end rfl ?_
  exact V_again (k7 - 1) (by omega) [(0, sl_ b11 o11 fs.length cap), (4, pt b4), (5, nt (IntKind.i64.wrap (s5 + x12))), (6, nt ((i + 1 : Nat) : Int))] rfl ⟨i + 1, IntKind.i64.wrap (s5 + x12), (over Lx (0 + i * 3) [nt x12]), by omega, hb2_25, by rw [over_length (by rw [hLx]; show 0 + i * 3 + 1 ≤ 30; omega)]; exact hLx, hk8, rfl⟩
 refine V_exit <| X_exit_then <| X_exit_then <| X_exit_here <| X_then <| V_seq <| Vn [4, 49] <| Vi (s5 > 1073741824) (fun hc28 => ?_) (fun hc28 => ?_)
 ·
  exact Vn [2, 3] <| Rt <| Xr (.tuple #[.pointer none, nt 1]) ⟨_, _, rfl, hK0⟩
 exact Vsk <| Vn [2, 3] <| Rr (.tuple #[pt b4, nt 0]) ⟨_, _, rfl, hK0⟩
theorem rnew11_weak (w : World) : Calls Tryz.prog 23 #[] w fun e w' => ∃ pv, e = .returned (.pointer pv) ∧ Keep none_ w w' := by
 have hK0 : Keep none_ w w := Keep.refl _ _
 have hzhK0 := Keep.size hK0
 refine eV ?_
 refine Vs [] <| V_seq <| V_draws (acts [0, 1, 3]) none_ [[0, 1, 2, 3, 4], [1, 0, 2, 3, 4]] (by kernel_rfl) (by repeat first | exact sure_body (by rintro _ _ ⟨_, h, _⟩; exact ⟨_, h⟩) | refine sure_then ?_ | refine sure_block ?_ | refine sure_join ?_) (by kernel_rfl) ?_
 intro w2 hk1 he3 L hL4
 have hsz5 := Keep.size hk1
 replace hK0 := hK0.tn hk1
 have K6 : Keep none_ w2 w2 := Keep.refl _ _
 simp only [List.mem_cons, List.not_mem_nil, or_false] at hL4
 rcases hL4 with rfl | rfl
 ·
  refine GI_make (E := 171) (sz := 7) (by_ := 56) (m := 12) (kd := .i64) (zv := .agg #[.bool false, nt 0, nt 0, nt 0, nt 0, nt 0, nt 0]) 131 (.const (Value.int IntKind.i64 12)) (.const (Value.int IntKind.i64 12)) ((List.replicate 12 [.bool false, nt 0, nt 0, nt 0, nt 0, nt 0, nt 0]).flatten) (some 1) (by kernel_rfl) (by kernel_rfl) K6 (by kernel_rfl) (by kernel_rfl) (by kernel_rfl) (by kernel_rfl) (by decide) (by decide) (by kernel_rfl) ?_
  intro b7 w7 e7 hb7 k7 z7 K8
  have hsz9 := Keep.size k7
  replace hK0 := hK0.tn k7
  have hb7lt := hb7.lt
  refine GI_make (E := 235) (sz := 9) (by_ := 88) (m := 40) (kd := .i64) (zv := .agg #[.slice none 0 0, .bool false, nt 0, nt 0, nt 0, nt 0, nt 0, nt 0, nt 0]) 132 (.const (Value.int IntKind.i64 40)) (.const (Value.int IntKind.i64 40)) ((List.replicate 40 [.slice none 0 0, .bool false, nt 0, nt 0, nt 0, nt 0, nt 0, nt 0, nt 0]).flatten) (some 2) (by kernel_rfl) (by kernel_rfl) K8 (by kernel_rfl) (by kernel_rfl) (by kernel_rfl) (by kernel_rfl) (by decide) (by decide) (by kernel_rfl) ?_
  intro b10 w10 e10 hb10 k10 z10 K11
  have hsz12 := Keep.size k10
  replace hK0 := hK0.tn k10
  have hb10lt := hb10.lt
  refine Gn [3, 4] [3] <| GI_box 134 (.tmp 3) (.agg #[sl_ b7 0 12 12, sl_ b10 0 40 40]) [sl_ b7 0 12 12, sl_ b10 0 40 40] (some 4) (by kernel_rfl) (by kernel_rfl) K11 (by kernel_rfl) (by kernel_rfl) ?_
  intro b13 w13 e13 hb13 k13 z13 K14
  have hsz15 := Keep.size k13
  replace hK0 := hK0.tn k13
  have hb13lt := hb13.lt
  refine Gs [] [(0, pt b13)] <| GI_end <| X_then <| V_ret ?_
  exact X_return _ rfl ⟨_, rfl, hK0⟩
 ·
  refine GI_make (E := 235) (sz := 9) (by_ := 88) (m := 40) (kd := .i64) (zv := .agg #[.slice none 0 0, .bool false, nt 0, nt 0, nt 0, nt 0, nt 0, nt 0, nt 0]) 132 (.const (Value.int IntKind.i64 40)) (.const (Value.int IntKind.i64 40)) ((List.replicate 40 [.slice none 0 0, .bool false, nt 0, nt 0, nt 0, nt 0, nt 0, nt 0, nt 0]).flatten) (some 2) (by kernel_rfl) (by kernel_rfl) K6 (by kernel_rfl) (by kernel_rfl) (by kernel_rfl) (by kernel_rfl) (by decide) (by decide) (by kernel_rfl) ?_
  intro b16 w16 e16 hb16 k16 z16 K17
  have hsz18 := Keep.size k16
  replace hK0 := hK0.tn k16
  have hb16lt := hb16.lt
  refine GI_make (E := 171) (sz := 7) (by_ := 56) (m := 12) (kd := .i64) (zv := .agg #[.bool false, nt 0, nt 0, nt 0, nt 0, nt 0, nt 0]) 131 (.const (Value.int IntKind.i64 12)) (.const (Value.int IntKind.i64 12)) ((List.replicate 12 [.bool false, nt 0, nt 0, nt 0, nt 0, nt 0, nt 0]).flatten) (some 1) (by kernel_rfl) (by kernel_rfl) K17 (by kernel_rfl) (by kernel_rfl) (by kernel_rfl) (by kernel_rfl) (by decide) (by decide) (by kernel_rfl) ?_
  intro b19 w19 e19 hb19 k19 z19 K20
  have hsz21 := Keep.size k19
  replace hK0 := hK0.tn k19
  have hb19lt := hb19.lt
  refine Gn [3, 4] [3] <| GI_box 134 (.tmp 3) (.agg #[sl_ b19 0 12 12, sl_ b16 0 40 40]) [sl_ b19 0 12 12, sl_ b16 0 40 40] (some 4) (by kernel_rfl) (by kernel_rfl) K20 (by kernel_rfl) (by kernel_rfl) ?_
  intro b22 w22 e22 hb22 k22 z22 K23
  have hsz24 := Keep.size k22
  replace hK0 := hK0.tn k22
  have hb22lt := hb22.lt
  refine Gs [] [(0, pt b22)] <| GI_end <| X_then <| V_ret ?_
  exact X_return _ rfl ⟨_, rfl, hK0⟩
theorem rnew12_weak (A : Option Addr) (cap : Nat) (ts : List Trk) (w : World) (hA : SlT w 18 Trk.cells A cap ts) (hok : okTs ts) : Calls Tryz.prog 21 #[.slice A ts.length cap] w fun e w' => ∃ pv, e = .returned (.tuple #[.pointer pv, nt 0]) ∧ Keep none_ w w' := by
 have hAlt := SlT.lt hA
 have hok1 := hok.1
 have hok2 := hok.2.1
 have hK0 : Keep none_ w w := Keep.refl _ _
 have hzhK0 := Keep.size hK0
 refine eV ?_
 refine Vr <| On 2 [0] <| Oe <| V_seq <| Vr <| On 4 [0, 8] <| Oq (u := .bool (decide ((ts.length : Int) < 1))) (v := .bool false) 8 (by rw [decide_eq_false (by omega : ¬ ((ts.length : Int) < 1))]) <| Oen [0, 12] <| Vp [(0, .slice A ts.length cap), (12, .bool (decide ((ts.length : Int) > 4)))] <| Vq (u := .bool (decide ((ts.length : Int) > 4))) (v := .bool false) 12 (by rw [decide_eq_false (by omega : ¬ ((ts.length : Int) > 4))]) <| Vf <| Vsk <| V_seq <| Vn [0, 4] <| V_block <| Vp [(0, .slice A ts.length cap), (4, nt 0)] <| V_loop (fun k wI e => ∃ i : Nat, (k + i = ts.length) ∧ Keep none_ w wI ∧ e = [(0, .slice A ts.length cap), (4, nt (i : Int))]) ts.length ⟨0, rfl, Keep.refl _ _, rfl⟩ ?_
 rintro k4 w3 _ ⟨i, hki, hk5, rfl⟩
 have hsz6 := Keep.size hk5
 replace hA := hA.keep0 hk5
 replace hK0 := hK0.tn hk5
 have hzhk5 := Keep.size hk5
 refine V_seq <| Vn [0, 4, 16] <| Vi ((i : Int) < (ts.length : Int)) (fun hc7 => ?_) (fun hc7 => ?_)
 ·
  refine Vsk <| V_seq <| V_block <| Vr <| On 2 [0, 4, 19, 20] ?_
  obtain ⟨b8, o8, L8, T8, rfl, hat8⟩ := SlT.open_ hA (by first | omega | (simp only [List.length_map]; omega) | (simp; done) | (simp; omega))
  have hb8lt := hat8.blk.lt
  have hob9 := hAlt b8 ⟨_, rfl, rfl⟩
  refine Oi (b := b8) (o := o8) (len := ts.length) (cap := cap) (j := i) (some 21) 67 (.tmp 19) (.tmp 20) 80 18 144 .i64 ?_
  obtain ⟨x10, hx11⟩ : ∃ x, ts[i]? = some x := ⟨_, List.getElem?_eq_getElem (by first | omega | (simp only [List.length_map]; omega))⟩
  have hokx : okTrk x10 := hok.2.2 x10 (List.mem_of_getElem? hx11)
  refine La (o8 + i * 18) (Trk.cells x10) 18 hat8.blk (At.elem' hat8 (es_at hx11)) (At.len hat8 (es_at hx11)) <| Kk (r10Is_spec x10 _) fun w12 hk13 _ => ?_
  replace hk5 := hk5.tn hk13
  refine Oen [0, 4, 24] <| Vp [(0, sl_ b8 o8 ts.length cap), (4, nt (i : Int)), (24, .bool (!(decide (okTrk x10))))] <| Vq (u := .bool (!(decide (okTrk x10)))) (v := .bool false) 24 (by rw [decide_eq_true hokx]; rfl) <| Vf <| V_skip <| X_block <| X_then <| V_region ?_
  have hw16 : IntKind.i64.wrap ((i : Int) + 1) = ((i + 1 : Nat) : Int) := (wrap64_id (by omega) (by omega)).trans (by omega)
  refine On 2 [0, 18] <| Oq (u := nt (IntKind.i64.wrap ((i : Int) + 1))) (v := nt ((i + 1 : Nat) : Int)) 18 (by rw [hw16]) <| Os 3 [(0, sl_ b8 o8 ts.length cap), (4, nt ((i + 1 : Nat) : Int))] <| OI_end rfl ?_
  exact V_again (k4 - 1) (by omega) [(0, sl_ b8 o8 ts.length cap), (4, nt ((i + 1 : Nat) : Int))] rfl ⟨i + 1, by omega, hk5, rfl⟩
 refine V_exit <| X_exit_then <| X_exit_then <| X_exit_here <| X_then <| Vr <| OI_slit (E := 80) (zv := .agg #[nt 0, nt 0, nt 0, nt 0, nt 0, nt 0, nt 0, nt 0, nt 0, nt 0, nt 0, nt 0, nt 0, nt 0, nt 0, nt 0, nt 0, nt 0]) (sz := 18) (by_ := 144) 67 0 #[] [] [] (some 25) (by kernel_rfl) (by kernel_rfl) (by kernel_rfl) (by omega) rfl (by omega) (by intro v hv; cases hv) (by kernel_rfl) rfl ?_
 intro b17 w17 e17 hb17 k17 z17
 have hsz18 := Keep.size k17
 replace hA := hA.keep0 k17
 replace hK0 := hK0.tn k17
 have hb17lt := hb17.lt
 refine On 2 [25, 26] ?_
 have hl19 : ts.length = ts.length := rfl
 have hy19 := SlT.slr hA
 refine OI_append (t := 67) (at2 := 67) (E := 80) (E2 := 80) (sz := 18) (by_ := 144) (zv := .agg #[nt 0, nt 0, nt 0, nt 0, nt 0, nt 0, nt 0, nt 0, nt 0, nt 0, nt 0, nt 0, nt 0, nt 0, nt 0, nt 0, nt 0, nt 0]) (m := ([] : List Trk).length) (k := ts.length) (.tmp 25) (.tmp 26) (sl_ b17 0 0 0) (.slice A ts.length cap) (some 27) (by kernel_rfl) (by kernel_rfl) (by kernel_rfl) (by kernel_rfl) (by kernel_rfl) (by kernel_rfl) (by kernel_rfl) (SlT.slr (slt_blk (xs := ([] : List Trk)) (f := Trk.cells) (sz := 18) hb17 Trk.len rfl)) hy19 (fun u hu => by obtain ⟨z, _, hz⟩ := List.mem_flatMap.1 hu; exact Trk.one z u hz) (by first | omega | ((repeat first | rw [List.length_append] | rw [List.length_cons] | rw [List.length_nil] | rw [List.length_take] | rw [List.length_drop]) <;> omega)) (by omega) (by first | omega | ((repeat first | rw [List.length_append] | rw [List.length_cons] | rw [List.length_nil] | rw [List.length_take] | rw [List.length_drop]) <;> omega)) (by omega) ?_
 intro vv9 w19 hap
 obtain ⟨A19, cap19, rfl, hA19, hk19, own19x⟩ := app_many (f := Trk.cells) (xs := ([] : List Trk)) (ys := ts) (A := (some ⟨b17, 0, none⟩)) (cap := 0) hap hl19 Trk.len
 replace hk19 : Keep (only b17) w17 w19 := hk19.mono (fun i _ h => inA_some h)
 have own19 : ∀ q, inA A19 q → w.heap.size ≤ q := fun q hq => by rcases own19x q hq with h | h; (have h9 := inA_some h; show w.heap.size ≤ q; omega); (show w.heap.size ≤ q; omega)
 rw [List.nil_append] at hA19
 have hsz20 := Keep.size hk19
 replace hK0 := Keep.fr hK0 hk19
 have lt19 := SlT.lt hA19
 have hcap19 := SlT.cap_le hA19
 refine On 4 [28] <| Bx 98 [.slice A19 ts.length cap19, .slice none 0 0] ?_
 intro b21 w21 e21 hb21 k21 z21
 have hsz22 := Keep.size k21
 replace hK0 := hK0.tn k21
 have hb21lt := hb21.lt
 refine Ose [(2, pt b21), (3, nt 0)] <| V_ret ?_
 exact X_return _ rfl ⟨_, rfl, hK0⟩
end Go.Al

namespace Go.Al
open Go Go.RowKit Go.Proofs
inductive CA where
  | mk (k to n : Int) (A : Option Addr) (cap : Nat) (kids : List CA)
namespace CA
def k : CA → Int | .mk x _ _ _ _ _ => x
def to : CA → Int | .mk _ x _ _ _ _ => x
def n : CA → Int | .mk _ _ x _ _ _ => x
def A : CA → Option Addr | .mk _ _ _ x _ _ => x
def cap : CA → Nat | .mk _ _ _ _ x _ => x
def kids : CA → List CA | .mk _ _ _ _ _ x => x
def cells (c : CA) : List Value := [nt c.k, nt c.to, nt c.n, .slice c.A c.kids.length c.cap]
theorem len (c : CA) : c.cells.length = 4 := rfl
theorem one (c : CA) : ∀ u ∈ c.cells, u.oneCell' = true := one_all' rfl
end CA
inductive RepIn (D : Nat → Prop) (w : World) : CA → Prop
  | mk {c : CA} (hs : ArgT w 4 CA.cells c.A c.cap c.kids) (hD : ∀ q, inA c.A q → D q) (hk : ∀ x ∈ c.kids, RepIn D w x) : RepIn D w c
def RepL (D : Nat → Prop) (w : World) (A : Option Addr) (cap : Nat) (l : List CA) : Prop := ArgT w 4 CA.cells A cap l ∧ (∀ q, inA A q → D q) ∧ ∀ x ∈ l, RepIn D w x
section
variable {D S : Nat → Prop} {w w' : World} {c : CA}
theorem ArgT.keepD {α : Type} {sz cap : Nat} {f : α → List Value} {A : Option Addr} {xs : List α} (h : ArgT w sz f A cap xs) (hk : Keep S w w') (hS : ∀ q, inA A q → ¬ S q) : ArgT w' sz f A cap xs := by
  rcases h with h | ⟨b, o, L, h1, h2⟩
  · exact .inl h
  · exact .inr ⟨b, o, L, h1, h2.keep hk (hS b (by rw [h1]; exact ⟨_, rfl, rfl⟩))⟩
theorem RepIn.keep (h : RepIn D w c) (hk : Keep S w w') (hd : ∀ q, D q → ¬ S q) : RepIn D w' c := by
  induction h with
  | mk hs hD _ ih => exact .mk (hs.keepD hk (fun q hq => hd q (hD q hq))) hD ih
theorem RepIn.quiet {N : Nat} (h : RepIn D w c) (hk : Keep (lb N w) w w') (hd : ∀ q, D q → ¬ lb N w q) : RepIn D w' c := h.keep hk hd
theorem RepIn.mono {D' : Nat → Prop} (h : RepIn D w c) (hd : ∀ q, D q → D' q) : RepIn D' w c := by
  induction h with
  | mk hs hD _ ih => exact .mk hs (fun q hq => hd q (hD q hq)) ih
theorem RepIn.l (h : RepIn D w c) : RepL D w c.A c.cap c.kids := by
  cases h with
  | mk hs hD hk => exact ⟨hs, hD, hk⟩
theorem RepIn.none {k to n : Int} {A : Option Addr} {cap : Nat} (hA : ∀ q, inA A q → D q) : RepIn D w (.mk k to n A cap []) := .mk (.inl rfl) hA (fun x hx => by cases hx)
theorem RepL.keep {A : Option Addr} {cap : Nat} {l : List CA} (h : RepL D w A cap l) (hk : Keep S w w') (hd : ∀ q, D q → ¬ S q) : RepL D w' A cap l := ⟨h.1.keepD hk (fun q hq => hd q (h.2.1 q hq)), h.2.1, fun x hx => (h.2.2 x hx).keep hk hd⟩
end
def stepC (b : Bool) (ok : CA → Bool) (c : CA) : Bool :=
  (decide (c.k = 1) && decide (c.kids.length = 0) && decide (c.to = 0) && decide (0 ≤ c.n ∧ c.n ≤ 1073741824)) ||
  (decide (c.k = 2) && decide (c.kids.length = 0) && decide (0 ≤ c.to ∧ c.to ≤ 9) && decide (0 ≤ c.n ∧ c.n ≤ 1073741824)) ||
  (decide (c.k = 3 ∨ c.k = 4) && decide (c.kids.length = 0) && decide (c.to = 0) && decide (0 ≤ c.n ∧ c.n ≤ 11)) ||
  (decide (c.k = 5) && b && decide (c.to = 0) && decide (c.n = 0) && decide (1 ≤ c.kids.length ∧ c.kids.length ≤ 4) && c.kids.all ok)
def okCA : Nat → CA → Bool
  | 0 => stepC false (fun _ => false)
  | f + 1 => stepC true (okCA f)
def ixC (ok : CA → Bool) : Nat → List CA → Int
  | _, [] => -1
  | i, x :: l => if ok x = true then ixC ok (i + 1) l else i
theorem ixC_ge (ok : CA → Bool) : ∀ (l : List CA) (i : Nat), decide (ixC ok i l ≥ 0) = !(l.all ok) := by
  intro l i
  rw [Bool.eq_iff_iff, decide_eq_true_eq]
  induction l generalizing i with
  | nil => simp [ixC]
  | cons x l ih =>
    rw [show ixC ok i (x :: l) = if ok x = true then ixC ok (i + 1) l else i from rfl, List.all_cons]
    by_cases h : ok x = true
    · rw [if_pos h, h, Bool.true_and]; exact ih (i + 1)
    · rw [if_neg h]; simp [h]
theorem ixC_drop {ok : CA → Bool} {l : List CA} {i : Nat} {x : CA} (h : l[i]? = some x) : ixC ok i (l.drop i) = if ok x = true then ixC ok (i + 1) (l.drop (i + 1)) else i := by
  obtain ⟨h1, rfl⟩ := List.getElem?_eq_some_iff.1 h
  rw [List.drop_eq_getElem_cons h1]; rfl
theorem cdIn_spec (n lo hi : Int) (w : World) : Calls Tryz.prog 82 #[nt n, nt lo, nt hi] w fun e w' => e = .returned (.bool (decide (lo ≤ n ∧ n ≤ hi))) ∧ w' = w := by
 refine eV ?_
 refine Vr <| On 1 [0, 1, 2] <| Oer <| On 4 [0, 2, 10] ?_
 by_cases hg1 : n ≥ lo
 ·
  exact Dt 10 hg1 <| Oen [6] <| Rr (.bool (decide (n ≤ hi))) ⟨by congr 2; simp only [Bool.decide_and]; by_cases h1 : lo ≤ n <;> simp [h1] <;> omega, rfl⟩
 exact Df 10 hg1 <| Oen [6] <| Rr (.bool false) ⟨by congr 2; simp only [Bool.decide_and]; by_cases h1 : lo ≤ n <;> simp [h1] <;> omega, rfl⟩
theorem cdAcc_spec (n : Int) (w : World) : Calls Tryz.prog 83 #[nt n] w fun e w' => e = .returned (.bool (decide (0 ≤ n ∧ n ≤ 9))) ∧ w' = w := by
 refine eV ?_
 exact Vr <| On 1 [0] <| Oer <| On 1 [3] <| Kq (cdIn_spec n 0 9 _) <| Oen [2] <| Rr (.bool (decide ((0 : Int) ≤ n ∧ n ≤ 9))) ⟨rfl, rfl⟩
theorem isCall1_spec (D : Nat → Prop) (c : CA) (dp : Int) (bd : Nat) (w : World) (ok : CA → Bool) (hIH : ∀ D x w, RepIn D w x → Calls Tryz.prog 59 #[.agg x.cells.toArray, nt (dp + 1)] w fun e w' => e = .returned (.bool (ok x)) ∧ Keep none_ w w') (hrep : RepIn D w c) (hbd : Blk w bd [nt dp] 3) (hdp : -1000 ≤ dp ∧ dp ≤ 1000) : Calls Tryz.prog 84 #[.agg c.cells.toArray, pt bd] w fun e w' => e = .returned (.bool (!(ok c))) ∧ Keep none_ w w' := by
 have hK0 : Keep none_ w w := Keep.refl _ _
 have hzhK0 := Keep.size hK0
 refine eV ?_
 refine Vr <| OI_box 26 (.tmp 0) (.agg (CA.cells c).toArray) (CA.cells c) (some 2) (by kernel_rfl) (by kernel_rfl) rfl ?_
 intro b1 w1 e1 hb1 k1 z1
 have hsz2 := Keep.size k1
 replace hbd := hbd.k0 k1
 replace hrep := RepIn.keep hrep k1 nk
 replace hK0 := hK0.tn k1
 have hb1lt := hb1.lt
 refine On 2 [1, 2] <| Oer <| La 0 (CA.cells c) 4 hb1 (take_all (CA.len _)) (CA.len _) <| Lr 0 (nt dp) hbd ?_
 have hw3 : IntKind.i64.wrap (dp + 1) = dp + 1 := (wrap64_id (by omega) (by omega)).trans (by omega)
 refine On 3 [4, 6] <| Oq (u := nt (IntKind.i64.wrap (dp + 1))) (v := nt (dp + 1)) 6 (by rw [hw3]) <| Kk (hIH D c _ hrep) fun w4 hk5 _ => ?_
 replace hK0 := hK0.tn hk5
 exact Oen [3] <| Rr (.bool (!(ok c))) ⟨rfl, hK0⟩
theorem ixc_spec (D : Nat → Prop) (A : Option Addr) (cap : Nat) (kl : List CA) (dp : Int) (bd : Nat) (w : World) (ok : CA → Bool) (hIH : ∀ D x w, RepIn D w x → Calls Tryz.prog 59 #[.agg x.cells.toArray, nt (dp + 1)] w fun e w' => e = .returned (.bool (ok x)) ∧ Keep none_ w w') (hrep : RepL D w A cap kl) (hbd : Blk w bd [nt dp] 3) (hdp : -1000 ≤ dp ∧ dp ≤ 1000) (hn4 : kl.length ≤ 1000000) : Calls Tryz.prog 106 #[.slice A kl.length cap, .func (.func 84) #[] #[pt bd]] w fun e w' => e = .returned (nt (ixC ok 0 kl)) ∧ Keep none_ w w' := by
 have hA := hrep.1
 have hK0 : Keep none_ w w := Keep.refl _ _
 have hzhK0 := Keep.size hK0
 refine eV ?_
 refine Vr <| On 1 [0, 1] <| Oe <| V_seq <| Vn [0, 1, 7, 8] <| V_block <| Vp [(0, .slice A kl.length cap), (1, .func (.func 84) #[] #[pt bd]), (7, nt (kl.length : Int)), (8, nt 0)] <| V_loop (fun k wI e => ∃ i : Nat, (k + i = kl.length) ∧ (ixC ok i (kl.drop i) = ixC ok 0 kl) ∧ Keep none_ w wI ∧ e = [(0, .slice A kl.length cap), (1, .func (.func 84) #[] #[pt bd]), (7, nt (kl.length : Int)), (8, nt (i : Int))]) kl.length ⟨0, rfl, rfl, Keep.refl _ _, rfl⟩ ?_
 rintro k2 w1 _ ⟨i, hki, hix, hk3, rfl⟩
 have hsz4 := Keep.size hk3
 replace hbd := hbd.k0 hk3
 replace hA := ArgT.keep0 hA hk3
 replace hrep := RepL.keep hrep hk3 nk
 replace hK0 := hK0.tn hk3
 have hzhk3 := Keep.size hk3
 refine Vn [0, 1, 7, 8, 9] <| V_seq <| Vi ((i : Int) < (kl.length : Int)) (fun hc5 => ?_) (fun hc5 => ?_)
 ·
  refine Vsk <| V_seq <| V_block <| Vr <| On 2 [0, 1, 5, 7, 8] <| Oer <| On 3 [0, 1, 5, 7, 8, 11, 12, 13] ?_
  obtain ⟨b6, o6, L6, rfl, hat6⟩ := ArgT.open_ hA (by first | omega | (simp only [List.length_map]; omega) | (simp; done) | (simp; omega))
  have hb6lt0 := ArgT.lt hA (by first | omega | (simp only [List.length_map]; omega) | (simp; done) | (simp; omega))
  have hb6lt := hat6.blk.lt
  refine Oi (b := b6) (o := o6) (len := kl.length) (cap := cap) (j := i) (some 14) 24 (.tmp 12) (.tmp 13) 26 4 48 .i64 ?_
  obtain ⟨x7, hx8⟩ : ∃ x, kl[i]? = some x := ⟨_, List.getElem?_eq_getElem (by first | omega | (simp only [List.length_map]; omega))⟩
  refine OI_aggR 26 (.tmp 14) (o6 + i * 4) (CA.cells x7) (some 15) (by kernel_rfl) (by kernel_rfl) hat6.blk (m := 4) (by kernel_rfl) (AtR.elem' hat6 _ _ (es_at hx8)) (AtR.len hat6 (es_at hx8)) <| Kk (isCall1_spec D x7 dp bd _ ok hIH (hrep.2.2 x7 (List.mem_of_getElem? hx8)) hbd hdp) fun w9 hk10 _ => ?_
  replace hK0 := hK0.tn hk10
  replace hk3 := hk3.tn hk10
  refine Oe <| Vb (!(ok x7)) (fun hc12 => ?_) (fun hc12 => ?_)
  ·
   refine Vn [4] <| V_ret <| X_ret_block <| X_ret_then <| X_ret_then <| X_ret_block <| X_ret_then ?_
   have h9 : ixC ok 0 kl = (i : Int) := by rw [← hix, ixC_drop hx8, if_neg (by simpa using hc12)]
   exact Xr (nt (i : Int)) ⟨by rw [h9], hK0⟩
  refine V_skip <| X_block <| X_then <| V_region ?_
  have hw13 : IntKind.i64.wrap ((i : Int) + 1) = ((i + 1 : Nat) : Int) := (wrap64_id (by omega) (by omega)).trans (by omega)
  refine On 1 [0, 1, 7, 18] <| Oq (u := nt (IntKind.i64.wrap ((i : Int) + 1))) (v := nt ((i + 1 : Nat) : Int)) 18 (by rw [hw13]) <| Os 2 [(0, sl_ b6 o6 kl.length cap), (1, .func (.func 84) #[] #[pt bd]), (7, nt (kl.length : Int)), (8, nt ((i + 1 : Nat) : Int))] <| OI_end rfl ?_
  exact V_again (k2 - 1) (by omega) [(0, sl_ b6 o6 kl.length cap), (1, .func (.func 84) #[] #[pt bd]), (7, nt (kl.length : Int)), (8, nt ((i + 1 : Nat) : Int))] rfl ⟨i + 1, by omega, by rw [← hix, ixC_drop hx8, if_pos (by simpa using hc12)], hk3, rfl⟩
 refine V_exit <| X_exit_then <| X_exit_then <| X_exit_here <| X_then <| Vn [4] <| V_ret ?_
 have he : i = kl.length := by omega
 have h9 : ixC ok 0 kl = -1 := by rw [← hix, he, List.drop_length]; rfl
 exact Xr (nt (-1)) ⟨by rw [h9], hK0⟩
theorem ctc_spec (D : Nat → Prop) (A : Option Addr) (cap : Nat) (kl : List CA) (dp : Int) (bd : Nat) (w : World) (ok : CA → Bool) (hIH : ∀ D x w, RepIn D w x → Calls Tryz.prog 59 #[.agg x.cells.toArray, nt (dp + 1)] w fun e w' => e = .returned (.bool (ok x)) ∧ Keep none_ w w') (hrep : RepL D w A cap kl) (hbd : Blk w bd [nt dp] 3) (hdp : -1000 ≤ dp ∧ dp ≤ 1000) (hn4 : kl.length ≤ 1000000) : Calls Tryz.prog 85 #[.slice A kl.length cap, .func (.func 84) #[] #[pt bd]] w fun e w' => e = .returned (.bool (!(kl.all ok))) ∧ Keep none_ w w' := by
 have hA := hrep.1
 have hK0 : Keep none_ w w := Keep.refl _ _
 have hzhK0 := Keep.size hK0
 refine eV ?_
 refine Vr <| On 1 [0, 1] <| Oer <| On 2 [5, 6] <| Kk (ixc_spec D A cap kl dp bd _ ok hIH hrep hbd hdp hn4) fun w1 hk2 _ => ?_
 replace hK0 := hK0.tn hk2
 exact Oen [4] <| Rr (.bool (decide (ixC ok 0 kl ≥ 0))) ⟨by rw [ixC_ge], hK0⟩
theorem isCall_step (D : Nat → Prop) (c : CA) (dp : Int) (w : World) (ok : CA → Bool) (hIH : dp < 3 → ∀ D x w, RepIn D w x → Calls Tryz.prog 59 #[.agg x.cells.toArray, nt (dp + 1)] w fun e w' => e = .returned (.bool (ok x)) ∧ Keep none_ w w') (hrep : RepIn D w c) (hdp : -1000 ≤ dp ∧ dp ≤ 1000) : Calls Tryz.prog 59 #[.agg c.cells.toArray, nt dp] w fun e w' => e = .returned (.bool (stepC (decide (dp < 3)) ok c)) ∧ Keep none_ w w' := by
 have hK0 : Keep none_ w w := Keep.refl _ _
 have hzhK0 := Keep.size hK0
 refine eV ?_
 refine Vr <| OI_box 26 (.tmp 0) (.agg (CA.cells c).toArray) (CA.cells c) (some 2) (by kernel_rfl) (by kernel_rfl) rfl ?_
 intro b1 w1 e1 hb1 k1 z1
 have hsz2 := Keep.size k1
 replace hrep := RepIn.keep hrep k1 nk
 replace hK0 := hK0.tn k1
 have hb1lt := hb1.lt
 refine Bx 3 [nt dp] ?_
 intro b3 w3 e3 hb3 k3 z3
 have hsz4 := Keep.size k3
 replace hb1 := hb1.k0 k3
 replace hrep := RepIn.keep hrep k3 nk
 replace hK0 := hK0.tn k3
 have hb3lt := hb3.lt
 refine On 3 [2, 3] <| Oer <| On 1 [2, 3, 7] <| Lr 0 (nt c.k) hb1 <| On 4 [2, 3, 10] ?_
 by_cases hg5 : c.k = 5
 ·
  refine Dt 10 hg5 <| On 10 [2, 3, 5] <| Oe <| V_seq <| Vr <| On 1 [2, 3, 5, 16] <| Lr 0 (nt c.k) hb1 <| Oe <| V_block <| Vn [2, 3, 5, 17, 18] <| Vi (c.k = 1) (fun hc6 => ?_) (fun hc6 => ?_)
  ·
   refine Vr <| On 3 [2, 21, 22] <| Lr 1 (nt c.to) hb1 <| On 7 [2, 26] ?_
   by_cases hg7 : c.to = 0
   ·
    exact Dt 26 hg7 <| On 8 [26, 27] <| Lr 2 (nt c.n) hb1 <| Kq (cdIn_spec c.n 0 1073741824 _) <| Oen [4] <| V_ret <| X_ret_block <| X_ret_then <| Xr (.bool (decide ((0 : Int) ≤ c.n ∧ c.n ≤ 1073741824))) ⟨by congr 2; unfold stepC; simp_all <;> first | (intros; omega) | (intro h; simp_all), hK0⟩
   exact Df 26 hg7 <| Oen [4] <| V_ret <| X_ret_block <| X_ret_then <| Xr (.bool false) ⟨by congr 2; unfold stepC; simp_all <;> first | (intros; omega) | (intro h; simp_all), hK0⟩
  refine Vn [2, 3, 5, 17, 31] <| Vi (c.k = 2) (fun hc11 => ?_) (fun hc11 => ?_)
  ·
   refine Vr <| On 3 [2, 34, 35] <| Lr 1 (nt c.to) hb1 <| Kq (cdAcc_spec c.to _) <| On 7 [2, 39] ?_
   by_cases hg15 : (0 : Int) ≤ c.to ∧ c.to ≤ 9
   ·
    exact Dt 39 hg15 <| On 8 [39, 40] <| Lr 2 (nt c.n) hb1 <| Kq (cdIn_spec c.n 0 1073741824 _) <| Oen [4] <| V_ret <| X_ret_block <| X_ret_then <| Xr (.bool (decide ((0 : Int) ≤ c.n ∧ c.n ≤ 1073741824))) ⟨by congr 2; unfold stepC; simp_all <;> first | (intros; omega) | (intro h; simp_all), hK0⟩
   exact Df 39 hg15 <| Oen [4] <| V_ret <| X_ret_block <| X_ret_then <| Xr (.bool false) ⟨by congr 2; unfold stepC; simp_all <;> first | (intros; omega) | (intro h; simp_all), hK0⟩
  refine V_seq <| Vn [2, 3, 5, 17, 44] <| Vi (c.k = 3) (fun hc19 => ?_) (fun hc19 => ?_)
  ·
   refine Vsk <| Vi (c.k = 3) (fun hc20 => ?_) (fun hc20 => ?_)
   ·
    refine Vr <| On 3 [2, 48, 49] <| Lr 1 (nt c.to) hb1 <| On 7 [2, 53] ?_
    by_cases hg21 : c.to = 0
    ·
     exact Dt 53 hg21 <| On 8 [53, 54] <| Lr 2 (nt c.n) hb1 <| Kq (cdIn_spec c.n 0 11 _) <| Oen [4] <| V_ret <| X_ret_block <| X_ret_then <| Xr (.bool (decide ((0 : Int) ≤ c.n ∧ c.n ≤ 11))) ⟨by congr 2; unfold stepC; simp_all <;> first | (intros; omega) | (intro h; simp_all), hK0⟩
    exact Df 53 hg21 <| Oen [4] <| V_ret <| X_ret_block <| X_ret_then <| Xr (.bool false) ⟨by congr 2; unfold stepC; simp_all <;> first | (intros; omega) | (intro h; simp_all), hK0⟩
   refine Vn [2, 3, 58] <| Vi (c.k = 5) (fun hc25 => ?_) (fun hc25 => ?_)
   ·
    refine Vr <| On 2 [2, 3, 6] <| Oer <| Lr 0 (nt dp) hb3 <| On 3 [2, 6, 63] ?_
    by_cases hg26 : dp < 3
    ·
     refine Dt 63 hg26 <| On 4 [2, 6, 63, 64] <| Lr 1 (nt c.to) hb1 <| On 8 [2, 6, 68] ?_
     by_cases hg27 : c.to = 0
     ·
      refine Dt 68 hg27 <| On 9 [2, 6, 68, 69] <| Lr 2 (nt c.n) hb1 <| On 13 [2, 6, 73] ?_
      by_cases hg28 : c.n = 0
      ·
       refine Dt 73 hg28 <| On 14 [2, 6, 73, 74] <| Lr 3 (.slice c.A c.kids.length c.cap) hb1 <| On 16 [2, 6, 73, 76] <| Kq (cdIn_spec (c.kids.length : Int) 1 4 _) <| On 19 [2, 6, 79] ?_
       by_cases hg32 : (1 : Int) ≤ (c.kids.length : Int) ∧ (c.kids.length : Int) ≤ 4
       ·
        refine Dt 79 hg32 <| On 20 [6, 79, 80] <| Lr 3 (.slice c.A c.kids.length c.cap) hb1 <| On 22 [79, 81, 82] <| Kk (ctc_spec D c.A c.cap c.kids dp b3 _ ok (hIH (by omega)) hrep.l hb3 hdp (by omega)) fun w33 hk34 _ => ?_
        replace hK0 := hK0.tn hk34
        exact Oen [4] <| V_ret <| X_ret_block <| X_ret_then <| Xr (.bool (!(!(c.kids.all ok)))) ⟨by congr 2; unfold stepC; simp_all <;> first | (intros; omega) | (intro h; simp_all), hK0⟩
       exact Df 79 hg32 <| Oen [4] <| V_ret <| X_ret_block <| X_ret_then <| Xr (.bool false) ⟨by congr 2; unfold stepC; simp_all <;> first | (intros; omega) | (intro h; simp_all), hK0⟩
      exact Df 73 hg28 <| Oen [4] <| V_ret <| X_ret_block <| X_ret_then <| Xr (.bool false) ⟨by congr 2; unfold stepC; simp_all <;> first | (intros; omega) | (intro h; simp_all), hK0⟩
     exact Df 68 hg27 <| Oen [4] <| V_ret <| X_ret_block <| X_ret_then <| Xr (.bool false) ⟨by congr 2; unfold stepC; simp_all <;> first | (intros; omega) | (intro h; simp_all), hK0⟩
    exact Df 63 hg26 <| Oen [4] <| V_ret <| X_ret_block <| X_ret_then <| Xr (.bool false) ⟨by congr 2; unfold stepC; simp_all <;> first | (intros; omega) | (intro h; simp_all), hK0⟩
   exact V_skip <| X_block <| X_then <| Vn [4] <| Rr (.bool false) ⟨by congr 2; unfold stepC; simp_all <;> first | (intros; omega) | (intro h; simp_all), hK0⟩
  refine V_region <| Oen [2, 3, 5, 17, 44] <| Vi (c.k = 4) (fun hc36 => ?_) (fun hc36 => ?_)
  ·
   refine Vr <| On 3 [2, 48, 49] <| Lr 1 (nt c.to) hb1 <| On 7 [2, 53] ?_
   by_cases hg37 : c.to = 0
   ·
    exact Dt 53 hg37 <| On 8 [53, 54] <| Lr 2 (nt c.n) hb1 <| Kq (cdIn_spec c.n 0 11 _) <| Oen [4] <| V_ret <| X_ret_block <| X_ret_then <| Xr (.bool (decide ((0 : Int) ≤ c.n ∧ c.n ≤ 11))) ⟨by congr 2; unfold stepC; simp_all <;> first | (intros; omega) | (intro h; simp_all), hK0⟩
   exact Df 53 hg37 <| Oen [4] <| V_ret <| X_ret_block <| X_ret_then <| Xr (.bool false) ⟨by congr 2; unfold stepC; simp_all <;> first | (intros; omega) | (intro h; simp_all), hK0⟩
  refine Vn [2, 3, 58] <| Vi (c.k = 5) (fun hc41 => ?_) (fun hc41 => ?_)
  ·
   refine Vr <| On 2 [2, 3, 6] <| Oer <| Lr 0 (nt dp) hb3 <| On 3 [2, 6, 63] ?_
   by_cases hg42 : dp < 3
   ·
    refine Dt 63 hg42 <| On 4 [2, 6, 63, 64] <| Lr 1 (nt c.to) hb1 <| On 8 [2, 6, 68] ?_
    by_cases hg43 : c.to = 0
    ·
     refine Dt 68 hg43 <| On 9 [2, 6, 68, 69] <| Lr 2 (nt c.n) hb1 <| On 13 [2, 6, 73] ?_
     by_cases hg44 : c.n = 0
     ·
      refine Dt 73 hg44 <| On 14 [2, 6, 73, 74] <| Lr 3 (.slice c.A c.kids.length c.cap) hb1 <| On 16 [2, 6, 73, 76] <| Kq (cdIn_spec (c.kids.length : Int) 1 4 _) <| On 19 [2, 6, 79] ?_
      by_cases hg48 : (1 : Int) ≤ (c.kids.length : Int) ∧ (c.kids.length : Int) ≤ 4
      ·
       refine Dt 79 hg48 <| On 20 [6, 79, 80] <| Lr 3 (.slice c.A c.kids.length c.cap) hb1 <| On 22 [79, 81, 82] <| Kk (ctc_spec D c.A c.cap c.kids dp b3 _ ok (hIH (by omega)) hrep.l hb3 hdp (by omega)) fun w49 hk50 _ => ?_
       replace hK0 := hK0.tn hk50
       exact Oen [4] <| V_ret <| X_ret_block <| X_ret_then <| Xr (.bool (!(!(c.kids.all ok)))) ⟨by congr 2; unfold stepC; simp_all <;> first | (intros; omega) | (intro h; simp_all), hK0⟩
      exact Df 79 hg48 <| Oen [4] <| V_ret <| X_ret_block <| X_ret_then <| Xr (.bool false) ⟨by congr 2; unfold stepC; simp_all <;> first | (intros; omega) | (intro h; simp_all), hK0⟩
     exact Df 73 hg44 <| Oen [4] <| V_ret <| X_ret_block <| X_ret_then <| Xr (.bool false) ⟨by congr 2; unfold stepC; simp_all <;> first | (intros; omega) | (intro h; simp_all), hK0⟩
    exact Df 68 hg43 <| Oen [4] <| V_ret <| X_ret_block <| X_ret_then <| Xr (.bool false) ⟨by congr 2; unfold stepC; simp_all <;> first | (intros; omega) | (intro h; simp_all), hK0⟩
   exact Df 63 hg42 <| Oen [4] <| V_ret <| X_ret_block <| X_ret_then <| Xr (.bool false) ⟨by congr 2; unfold stepC; simp_all <;> first | (intros; omega) | (intro h; simp_all), hK0⟩
  exact V_skip <| X_block <| X_then <| Vn [4] <| Rr (.bool false) ⟨by congr 2; unfold stepC; simp_all <;> first | (intros; omega) | (intro h; simp_all), hK0⟩
 refine Df 10 hg5 <| On 5 [2, 3, 10, 11] <| Lr 3 (.slice c.A c.kids.length c.cap) hb1 <| On 10 [2, 3, 5] <| Oe <| V_seq <| Vr <| On 1 [2, 3, 5, 16] <| Lr 0 (nt c.k) hb1 <| Oe <| V_block <| Vn [2, 3, 5, 17, 18] <| Vi (c.k = 1) (fun hc52 => ?_) (fun hc52 => ?_)
 ·
  refine Vr <| On 2 [2, 21] ?_
  by_cases hg53 : (c.kids.length : Int) = 0
  ·
   refine Dt 21 hg53 <| On 3 [2, 21, 22] <| Lr 1 (nt c.to) hb1 <| On 7 [2, 26] ?_
   by_cases hg54 : c.to = 0
   ·
    exact Dt 26 hg54 <| On 8 [26, 27] <| Lr 2 (nt c.n) hb1 <| Kq (cdIn_spec c.n 0 1073741824 _) <| Oen [4] <| V_ret <| X_ret_block <| X_ret_then <| Xr (.bool (decide ((0 : Int) ≤ c.n ∧ c.n ≤ 1073741824))) ⟨by congr 2; unfold stepC; simp_all <;> first | (intros; omega) | (intro h; simp_all), hK0⟩
   exact Df 26 hg54 <| Oen [4] <| V_ret <| X_ret_block <| X_ret_then <| Xr (.bool false) ⟨by congr 2; unfold stepC; simp_all <;> first | (intros; omega) | (intro h; simp_all), hK0⟩
  exact Df 21 hg53 <| Oen [4] <| V_ret <| X_ret_block <| X_ret_then <| Xr (.bool false) ⟨by congr 2; unfold stepC; simp_all <;> first | (intros; omega) | (intro h; simp_all), hK0⟩
 refine Vn [2, 3, 5, 17, 31] <| Vi (c.k = 2) (fun hc58 => ?_) (fun hc58 => ?_)
 ·
  refine Vr <| On 2 [2, 34] ?_
  by_cases hg59 : (c.kids.length : Int) = 0
  ·
   refine Dt 34 hg59 <| On 3 [2, 34, 35] <| Lr 1 (nt c.to) hb1 <| Kq (cdAcc_spec c.to _) <| On 7 [2, 39] ?_
   by_cases hg63 : (0 : Int) ≤ c.to ∧ c.to ≤ 9
   ·
    exact Dt 39 hg63 <| On 8 [39, 40] <| Lr 2 (nt c.n) hb1 <| Kq (cdIn_spec c.n 0 1073741824 _) <| Oen [4] <| V_ret <| X_ret_block <| X_ret_then <| Xr (.bool (decide ((0 : Int) ≤ c.n ∧ c.n ≤ 1073741824))) ⟨by congr 2; unfold stepC; simp_all <;> first | (intros; omega) | (intro h; simp_all), hK0⟩
   exact Df 39 hg63 <| Oen [4] <| V_ret <| X_ret_block <| X_ret_then <| Xr (.bool false) ⟨by congr 2; unfold stepC; simp_all <;> first | (intros; omega) | (intro h; simp_all), hK0⟩
  exact Df 34 hg59 <| Oen [4] <| V_ret <| X_ret_block <| X_ret_then <| Xr (.bool false) ⟨by congr 2; unfold stepC; simp_all <;> first | (intros; omega) | (intro h; simp_all), hK0⟩
 refine V_seq <| Vn [2, 3, 5, 17, 44] <| Vi (c.k = 3) (fun hc67 => ?_) (fun hc67 => ?_)
 ·
  refine Vsk <| Vi (c.k = 3) (fun hc68 => ?_) (fun hc68 => ?_)
  ·
   refine Vr <| On 2 [2, 48] ?_
   by_cases hg69 : (c.kids.length : Int) = 0
   ·
    refine Dt 48 hg69 <| On 3 [2, 48, 49] <| Lr 1 (nt c.to) hb1 <| On 7 [2, 53] ?_
    by_cases hg70 : c.to = 0
    ·
     exact Dt 53 hg70 <| On 8 [53, 54] <| Lr 2 (nt c.n) hb1 <| Kq (cdIn_spec c.n 0 11 _) <| Oen [4] <| V_ret <| X_ret_block <| X_ret_then <| Xr (.bool (decide ((0 : Int) ≤ c.n ∧ c.n ≤ 11))) ⟨by congr 2; unfold stepC; simp_all <;> first | (intros; omega) | (intro h; simp_all), hK0⟩
    exact Df 53 hg70 <| Oen [4] <| V_ret <| X_ret_block <| X_ret_then <| Xr (.bool false) ⟨by congr 2; unfold stepC; simp_all <;> first | (intros; omega) | (intro h; simp_all), hK0⟩
   exact Df 48 hg69 <| Oen [4] <| V_ret <| X_ret_block <| X_ret_then <| Xr (.bool false) ⟨by congr 2; unfold stepC; simp_all <;> first | (intros; omega) | (intro h; simp_all), hK0⟩
  refine Vn [2, 3, 58] <| Vi (c.k = 5) (fun hc74 => ?_) (fun hc74 => ?_)
  ·
   refine Vr <| On 2 [2, 3, 6] <| Oer <| Lr 0 (nt dp) hb3 <| On 3 [2, 6, 63] ?_
   by_cases hg75 : dp < 3
   ·
    refine Dt 63 hg75 <| On 4 [2, 6, 63, 64] <| Lr 1 (nt c.to) hb1 <| On 8 [2, 6, 68] ?_
    by_cases hg76 : c.to = 0
    ·
     refine Dt 68 hg76 <| On 9 [2, 6, 68, 69] <| Lr 2 (nt c.n) hb1 <| On 13 [2, 6, 73] ?_
     by_cases hg77 : c.n = 0
     ·
      refine Dt 73 hg77 <| On 14 [2, 6, 73, 74] <| Lr 3 (.slice c.A c.kids.length c.cap) hb1 <| On 16 [2, 6, 73, 76] <| Kq (cdIn_spec (c.kids.length : Int) 1 4 _) <| On 19 [2, 6, 79] ?_
      by_cases hg81 : (1 : Int) ≤ (c.kids.length : Int) ∧ (c.kids.length : Int) ≤ 4
      ·
       refine Dt 79 hg81 <| On 20 [6, 79, 80] <| Lr 3 (.slice c.A c.kids.length c.cap) hb1 <| On 22 [79, 81, 82] <| Kk (ctc_spec D c.A c.cap c.kids dp b3 _ ok (hIH (by omega)) hrep.l hb3 hdp (by omega)) fun w82 hk83 _ => ?_
       replace hK0 := hK0.tn hk83
       exact Oen [4] <| V_ret <| X_ret_block <| X_ret_then <| Xr (.bool (!(!(c.kids.all ok)))) ⟨by congr 2; unfold stepC; simp_all <;> first | (intros; omega) | (intro h; simp_all), hK0⟩
      exact Df 79 hg81 <| Oen [4] <| V_ret <| X_ret_block <| X_ret_then <| Xr (.bool false) ⟨by congr 2; unfold stepC; simp_all <;> first | (intros; omega) | (intro h; simp_all), hK0⟩
     exact Df 73 hg77 <| Oen [4] <| V_ret <| X_ret_block <| X_ret_then <| Xr (.bool false) ⟨by congr 2; unfold stepC; simp_all <;> first | (intros; omega) | (intro h; simp_all), hK0⟩
    exact Df 68 hg76 <| Oen [4] <| V_ret <| X_ret_block <| X_ret_then <| Xr (.bool false) ⟨by congr 2; unfold stepC; simp_all <;> first | (intros; omega) | (intro h; simp_all), hK0⟩
   exact Df 63 hg75 <| Oen [4] <| V_ret <| X_ret_block <| X_ret_then <| Xr (.bool false) ⟨by congr 2; unfold stepC; simp_all <;> first | (intros; omega) | (intro h; simp_all), hK0⟩
  exact V_skip <| X_block <| X_then <| Vn [4] <| Rr (.bool false) ⟨by congr 2; unfold stepC; simp_all <;> first | (intros; omega) | (intro h; simp_all), hK0⟩
 refine V_region <| Oen [2, 3, 5, 17, 44] <| Vi (c.k = 4) (fun hc85 => ?_) (fun hc85 => ?_)
 ·
  refine Vr <| On 2 [2, 48] ?_
  by_cases hg86 : (c.kids.length : Int) = 0
  ·
   refine Dt 48 hg86 <| On 3 [2, 48, 49] <| Lr 1 (nt c.to) hb1 <| On 7 [2, 53] ?_
   by_cases hg87 : c.to = 0
   ·
    exact Dt 53 hg87 <| On 8 [53, 54] <| Lr 2 (nt c.n) hb1 <| Kq (cdIn_spec c.n 0 11 _) <| Oen [4] <| V_ret <| X_ret_block <| X_ret_then <| Xr (.bool (decide ((0 : Int) ≤ c.n ∧ c.n ≤ 11))) ⟨by congr 2; unfold stepC; simp_all <;> first | (intros; omega) | (intro h; simp_all), hK0⟩
   exact Df 53 hg87 <| Oen [4] <| V_ret <| X_ret_block <| X_ret_then <| Xr (.bool false) ⟨by congr 2; unfold stepC; simp_all <;> first | (intros; omega) | (intro h; simp_all), hK0⟩
  exact Df 48 hg86 <| Oen [4] <| V_ret <| X_ret_block <| X_ret_then <| Xr (.bool false) ⟨by congr 2; unfold stepC; simp_all <;> first | (intros; omega) | (intro h; simp_all), hK0⟩
 refine Vn [2, 3, 58] <| Vi (c.k = 5) (fun hc91 => ?_) (fun hc91 => ?_)
 ·
  refine Vr <| On 2 [2, 3, 6] <| Oer <| Lr 0 (nt dp) hb3 <| On 3 [2, 6, 63] ?_
  by_cases hg92 : dp < 3
  ·
   refine Dt 63 hg92 <| On 4 [2, 6, 63, 64] <| Lr 1 (nt c.to) hb1 <| On 8 [2, 6, 68] ?_
   by_cases hg93 : c.to = 0
   ·
    refine Dt 68 hg93 <| On 9 [2, 6, 68, 69] <| Lr 2 (nt c.n) hb1 <| On 13 [2, 6, 73] ?_
    by_cases hg94 : c.n = 0
    ·
     refine Dt 73 hg94 <| On 14 [2, 6, 73, 74] <| Lr 3 (.slice c.A c.kids.length c.cap) hb1 <| On 16 [2, 6, 73, 76] <| Kq (cdIn_spec (c.kids.length : Int) 1 4 _) <| On 19 [2, 6, 79] ?_
     by_cases hg98 : (1 : Int) ≤ (c.kids.length : Int) ∧ (c.kids.length : Int) ≤ 4
     ·
      refine Dt 79 hg98 <| On 20 [6, 79, 80] <| Lr 3 (.slice c.A c.kids.length c.cap) hb1 <| On 22 [79, 81, 82] <| Kk (ctc_spec D c.A c.cap c.kids dp b3 _ ok (hIH (by omega)) hrep.l hb3 hdp (by omega)) fun w99 hk100 _ => ?_
      replace hK0 := hK0.tn hk100
      exact Oen [4] <| V_ret <| X_ret_block <| X_ret_then <| Xr (.bool (!(!(c.kids.all ok)))) ⟨by congr 2; unfold stepC; simp_all <;> first | (intros; omega) | (intro h; simp_all), hK0⟩
     exact Df 79 hg98 <| Oen [4] <| V_ret <| X_ret_block <| X_ret_then <| Xr (.bool false) ⟨by congr 2; unfold stepC; simp_all <;> first | (intros; omega) | (intro h; simp_all), hK0⟩
    exact Df 73 hg94 <| Oen [4] <| V_ret <| X_ret_block <| X_ret_then <| Xr (.bool false) ⟨by congr 2; unfold stepC; simp_all <;> first | (intros; omega) | (intro h; simp_all), hK0⟩
   exact Df 68 hg93 <| Oen [4] <| V_ret <| X_ret_block <| X_ret_then <| Xr (.bool false) ⟨by congr 2; unfold stepC; simp_all <;> first | (intros; omega) | (intro h; simp_all), hK0⟩
  exact Df 63 hg92 <| Oen [4] <| V_ret <| X_ret_block <| X_ret_then <| Xr (.bool false) ⟨by congr 2; unfold stepC; simp_all <;> first | (intros; omega) | (intro h; simp_all), hK0⟩
 exact V_skip <| X_block <| X_then <| Vn [4] <| Rr (.bool false) ⟨by congr 2; unfold stepC; simp_all <;> first | (intros; omega) | (intro h; simp_all), hK0⟩
theorem isCall_spec : ∀ (f : Nat), f ≤ 3 → ∀ (D : Nat → Prop) (c : CA) (w : World), RepIn D w c → Calls Tryz.prog 59 #[.agg c.cells.toArray, nt (3 - (f : Int))] w fun e w' => e = .returned (.bool (okCA f c)) ∧ Keep none_ w w'
  | 0, _, D, c, w, h => isCall_step D c 3 w (fun _ => false) (fun h => by omega) h (by omega)
  | f + 1, hf, D, c, w, h => by
    have h1 := isCall_step D c (3 - ((f + 1 : Nat) : Int)) w (okCA f) (fun _ D x w hx => by
      rw [show (3 - ((f + 1 : Nat) : Int) + 1) = 3 - (f : Int) by omega]; exact isCall_spec f (by omega) D x w hx) h (by omega)
    rw [decide_eq_true (by omega : 3 - ((f + 1 : Nat) : Int) < 3)] at h1
    exact h1
theorem isCall_top (D : Nat → Prop) (c : CA) (w : World) (h : RepIn D w c) : Calls Tryz.prog 59 #[.agg c.cells.toArray, nt 0] w fun e w' => e = .returned (.bool (okCA 3 c)) ∧ Keep none_ w w' := isCall_spec 3 (by omega) D c w h
theorem isC_spec (D : Nat → Prop) (c : CA) (w : World) (hrep : RepIn D w c) : Calls Tryz.prog 27 #[.agg c.cells.toArray] w fun e w' => e = .returned (.bool (okCA 3 c)) ∧ Keep none_ w w' := by
 have hK0 : Keep none_ w w := Keep.refl _ _
 have hzhK0 := Keep.size hK0
 refine eV ?_
 refine Vr <| OI_box 26 (.tmp 0) (.agg (CA.cells c).toArray) (CA.cells c) (some 1) (by kernel_rfl) (by kernel_rfl) rfl ?_
 intro b1 w1 e1 hb1 k1 z1
 have hsz2 := Keep.size k1
 replace hrep := RepIn.keep hrep k1 nk
 replace hK0 := hK0.tn k1
 have hb1lt := hb1.lt
 refine On 2 [1] <| Oer <| La 0 (CA.cells c) 4 hb1 (take_all (CA.len _)) (CA.len _) <| Kk (isCall_top D c _ hrep) fun w3 hk4 _ => ?_
 replace hK0 := hK0.tn hk4
 exact Oen [2] <| Rr (.bool (okCA 3 c)) ⟨rfl, hK0⟩
end Go.Al

namespace Go.Al
open Go Go.RowKit Go.Proofs
structure RW where
  xs : List Acc
  cs : List Ci
  s : VS
  rs : List Rfm
def rwCan (q : RW) (ref now : Int) : RW := ⟨q.xs, q.cs, canS q.s q.rs ref now, canR q.s q.rs ref now⟩
def rwKil (ts : List Trk) (q : RW) (ref now : Int) : RW := ⟨kilX q.xs ts q.rs ref, q.cs, kilS q.s q.rs ref now, kilR q.s q.rs ref now⟩
def rwTrn (q : RW) (a b n : Int) : RW := ⟨transX q.xs q.cs a b n, q.cs, q.s, q.rs⟩
abbrev RsA := List Evt × Int × RW
def spS (t : Trk) (c : CA) (u : RW) : RsA := if c.n > t.cap then ([], 10, u) else if transE u.xs u.cs 0 c.to c.n ≠ 0 then ([], transE u.xs u.cs 0 c.to c.n, rwTrn u 0 c.to c.n) else ([Evt.mk 3 c.to c.n], 0, rwTrn u 0 c.to c.n)
def batS (dk : CA → RW → RsA) : List CA → List Evt → RW → RsA
  | [], out, u => (out, 0, u)
  | x :: l, out, u => if (dk x u).2.1 ≠ 0 then (out ++ (dk x u).1, (dk x u).2.1, (dk x u).2.2) else batS dk l (out ++ (dk x u).1) (dk x u).2.2
def doS (ts : List Trk) (of now : Int) (dk : CA → RW → RsA) (c : CA) (u : RW) : RsA :=
  if c.k = 1 then ([Evt.mk 5 of c.n], 0, u) else if c.k = 2 then spS (trkA ts of) c u else if c.k = 5 then batS dk c.kids [] u
  else if c.k = 3 then (if (trkA ts of).rank < 1 then ([], 8, u) else (canL u.rs c.n, ongE u.rs c.n, rwCan u c.n now))
  else if (trkA ts of).rank < 2 then ([], 8, u) else (kilL u.xs ts u.rs c.n, ongE u.rs c.n, rwKil ts u c.n now)
def doC (ts : List Trk) (of now : Int) : Nat → CA → RW → RsA
  | 0 => doS ts of now (fun _ u => ([], 0, u))
  | f + 1 => doS ts of now (doC ts of now f)
def doD (ts : List Trk) (of now : Int) (c : CA) (u : RW) : RsA := if (trkO ts of).isSome = false ∨ okCA 3 c = false then ([], 1, u) else doC ts of now 3 c u
theorem spS_rs (t : Trk) (c : CA) (u : RW) : (spS t c u).2.2.rs = u.rs := by
  unfold spS
  split
  · rfl
  · split <;> rfl
theorem spS_s (t : Trk) (c : CA) (u : RW) : (spS t c u).2.2.s = u.s := by
  unfold spS
  split
  · rfl
  · split <;> rfl
theorem batS_go {dk : CA → RW → RsA} {l : List CA} {i : Nat} {x : CA} {es : List Evt} {u : RW} (h : l[i]? = some x) (he : (dk x u).2.1 = 0) : batS dk (l.drop i) es u = batS dk (l.drop (i + 1)) (es ++ (dk x u).1) (dk x u).2.2 := by
  obtain ⟨h1, rfl⟩ := List.getElem?_eq_some_iff.1 h
  rw [List.drop_eq_getElem_cons h1, batS, if_neg (fun h => h he)]
theorem batS_no {dk : CA → RW → RsA} {l : List CA} {i : Nat} {x : CA} {es : List Evt} {u : RW} (h : l[i]? = some x) (he : ¬ (dk x u).2.1 = 0) : batS dk (l.drop i) es u = (es ++ (dk x u).1, (dk x u).2.1, (dk x u).2.2) := by
  obtain ⟨h1, rfl⟩ := List.getElem?_eq_some_iff.1 h
  rw [List.drop_eq_getElem_cons h1, batS, if_pos he]
theorem batS_len {dk : CA → RW → RsA} {B : Nat} : ∀ (l : List CA) (es : List Evt) (u : RW), (∀ x ∈ l, ∀ u, (dk x u).1.length ≤ B) → (batS dk l es u).1.length ≤ es.length + l.length * B
  | [], es, u, _ => by simp [batS]
  | x :: l, es, u, h => by
    have h1 := h x (List.mem_cons_self ..) u
    rw [List.length_cons, Nat.succ_mul, batS]
    split
    · rw [List.length_append]; omega
    · have h2 := batS_len l (es ++ (dk x u).1) (dk x u).2.2 (fun y hy => h y (List.mem_cons_of_mem _ hy))
      rw [List.length_append] at h2; omega
theorem kilL_len (xs : List Acc) (ts : List Trk) (rs : List Rfm) (n : Int) : (kilL xs ts rs n).length ≤ 3 := by
  unfold kilL kilL1 kilL2
  split
  · split <;> split <;> simp
  · simp
theorem canL_len (rs : List Rfm) (n : Int) : (canL rs n).length ≤ 3 := by
  unfold canL
  split <;> simp
theorem spS_len (t : Trk) (c : CA) (u : RW) : (spS t c u).1.length ≤ 3 := by
  unfold spS
  split
  · simp
  · split <;> simp
theorem doS_len {ts : List Trk} {of now : Int} {dk : CA → RW → RsA} {B : Nat} (c : CA) (u : RW) (h : c.k = 5 → c.kids.length ≤ 4 ∧ ∀ x ∈ c.kids, ∀ u, (dk x u).1.length ≤ B) : (doS ts of now dk c u).1.length ≤ 3 + 4 * B := by
  unfold doS
  split
  · simp; omega
  · split
    · exact Nat.le_trans (spS_len _ _ _) (by omega)
    · split
      · rename_i h5
        have h1 := batS_len c.kids [] u (h h5).2
        have h2 := Nat.mul_le_mul_right B (h h5).1
        simp at h1; omega
      · split
        · split
          · simp
          · exact Nat.le_trans (canL_len _ _) (by omega)
        · split
          · simp
          · exact Nat.le_trans (kilL_len _ _ _ _) (by omega)
theorem stepC_kids {b : Bool} {ok : CA → Bool} {c : CA} (h : stepC b ok c = true) (h5 : c.k = 5) : b = true ∧ c.kids.length ≤ 4 ∧ ∀ x ∈ c.kids, ok x = true := by
  unfold stepC at h
  simp [h5] at h
  exact ⟨h.1.1.1.1, by omega, h.2⟩
theorem doC_len {ts : List Trk} {of now : Int} : ∀ (f : Nat), f ≤ 3 → ∀ (c : CA) (u : RW), okCA f c = true → (doC ts of now f c u).1.length ≤ 300 := by
  have h0 : ∀ (c : CA) (u : RW), okCA 0 c = true → (doC ts of now 0 c u).1.length ≤ 3 := fun c u h => doS_len (B := 0) c u (fun h5 => by have := stepC_kids h h5; simp at this)
  have h1 : ∀ (c : CA) (u : RW), okCA 1 c = true → (doC ts of now 1 c u).1.length ≤ 15 := fun c u h => doS_len (B := 3) c u (fun h5 => ⟨(stepC_kids h h5).2.1, fun x hx u => h0 x u ((stepC_kids h h5).2.2 x hx)⟩)
  have h2 : ∀ (c : CA) (u : RW), okCA 2 c = true → (doC ts of now 2 c u).1.length ≤ 63 := fun c u h => doS_len (B := 15) c u (fun h5 => ⟨(stepC_kids h h5).2.1, fun x hx u => h1 x u ((stepC_kids h h5).2.2 x hx)⟩)
  have h3 : ∀ (c : CA) (u : RW), okCA 3 c = true → (doC ts of now 3 c u).1.length ≤ 255 := fun c u h => doS_len (B := 63) c u (fun h5 => ⟨(stepC_kids h h5).2.1, fun x hx u => h2 x u ((stepC_kids h h5).2.2 x hx)⟩)
  intro f hf c u h
  match f, hf, h with
  | 0, _, h => exact Nat.le_trans (h0 c u h) (by omega)
  | 1, _, h => exact Nat.le_trans (h1 c u h) (by omega)
  | 2, _, h => exact Nat.le_trans (h2 c u h) (by omega)
  | 3, _, h => exact Nat.le_trans (h3 c u h) (by omega)
end Go.Al

namespace Go.Al
open Go Go.RowKit Go.Proofs
def DoesAt (d r g : Nat) (ts : List Trk) (v l : Nat) (of now : Int) (dk : CA → RW → RsA) (c : CA) : Prop := ∀ (D H F G : Nat → Prop) (u : RW) (w : World), RepIn D w c → Blk w d [pt l, pt v, pt r, nt of, nt now] 86 → Rfr H w r g ts u.rs → VotT F w v u.s → Led G w l u.xs u.cs → (∀ q, H q → ¬ F q) → (∀ q, H q → ¬ G q) → (∀ q, F q → ¬ G q) → (∀ q, D q → q < w.heap.size ∧ ¬ H q ∧ ¬ F q ∧ ¬ G q) → (¬ H d ∧ ¬ F d ∧ ¬ G d) → Calls Tryz.prog 28 #[pt d, .agg c.cells.toArray] w fun e w' => ∃ A' cap', e = .returned (.tuple #[.slice A' ((dk c u).1).length cap', nt ((dk c u).2.1)]) ∧ SlT w' 3 Evt.cells A' cap' ((dk c u).1) ∧ (∀ q, inA A' q → w.heap.size ≤ q) ∧ (∃ H' F' G', Rfr H' w' r g ts (dk c u).2.2.rs ∧ VotT F' w' v (dk c u).2.2.s ∧ Led G' w' l (dk c u).2.2.xs (dk c u).2.2.cs ∧ (∀ q, H' q → H q ∨ w.heap.size ≤ q) ∧ (∀ q, F' q → F q ∨ w.heap.size ≤ q) ∧ (∀ q, G' q → G q ∨ w.heap.size ≤ q) ∧ (∀ q, H' q → ¬ F' q) ∧ (∀ q, H' q → ¬ G' q) ∧ (∀ q, F' q → ¬ G' q) ∧ (∀ q, inA A' q → ¬ H' q) ∧ (∀ q, inA A' q → ¬ F' q) ∧ (∀ q, inA A' q → ¬ G' q)) ∧ Keep (fun q => q = g ∨ F q ∨ G q) w w'
set_option maxHeartbeats 2000000 in
theorem spend_spec (t : Trk) (c : CA) (d v l r : Nat) (of now : Int) (G : Nat → Prop) (u : RW) (w : World) (hd : Blk w d [pt l, pt v, pt r, nt of, nt now] 86) (hl : Led G w l u.xs u.cs) (hdG : ¬ G d) : Calls Tryz.prog 60 #[pt d, .agg t.cells.toArray, .agg c.cells.toArray] w fun e w' => ∃ A' cap', e = .returned (.tuple #[.slice A' (spS t c u).1.length cap', nt (spS t c u).2.1]) ∧ SlT w' 3 Evt.cells A' cap' (spS t c u).1 ∧ (∀ q, inA A' q → w.heap.size ≤ q) ∧ (∃ G', Led G' w' l (spS t c u).2.2.xs (spS t c u).2.2.cs ∧ (∀ q, G' q → G q ∨ w.heap.size ≤ q) ∧ (∀ q, inA A' q → ¬ G' q)) ∧ Keep G w w' := by
 have hdlt := hd.lt
 have hGlt := Led.lt hl
 have hGd : ∀ q, G q → 0 ≤ q ∧ q ≠ d := fun q hq => ⟨Nat.zero_le _, fun e => hdG (e ▸ hq)⟩
 have hGr : ∀ q, G q → G q ∨ w.heap.size ≤ q := fun _ h => .inl h
 have hK0 : Keep G w w := Keep.refl _ _
 have hzhK0 := Keep.size hK0
 refine eV ?_
 refine Vr <| OI_box 80 (.tmp 1) (.agg (Trk.cells t).toArray) (Trk.cells t) (some 4) (by kernel_rfl) (by kernel_rfl) rfl ?_
 intro b1 w1 e1 hb1 k1 z1
 have hsz2 := Keep.size k1
 replace hl := hl.keep k1 nk
 replace hK0 := hK0.tn k1
 have hb1lt := hb1.lt
 refine OI_box 26 (.tmp 2) (.agg (CA.cells c).toArray) (CA.cells c) (some 5) (by kernel_rfl) (by kernel_rfl) rfl ?_
 intro b3 w3 e3 hb3 k3 z3
 have hsz4 := Keep.size k3
 replace hd := hd.k0 (k1.tr k3)
 replace hb1 := hb1.k0 k3
 replace hl := hl.keep k3 nk
 replace hK0 := hK0.tn k3
 have hb3lt := hb3.lt
 refine On 4 [0, 4, 5] <| Oe <| V_seq <| Vr <| On 1 [0, 4, 5, 9] <| Lr 2 (nt c.n) hb3 <| On 3 [0, 5, 10, 11] <| Lr 16 (nt t.cap) hb1 <| Oen [0, 5, 13] <| Vi (c.n > t.cap) (fun hc5 => ?_) (fun hc5 => ?_)
 ·
  refine Vn [6, 7] <| Rt ?_
  have hE6 : spS t c u = ([], 10, u) := if_pos hc5
  rw [hE6]
  exact Xr (.tuple #[.slice none 0 0, nt 10]) ⟨none, 0, rfl, SlT.nil _ _ _, (fun q h => (inA_none h).elim), ⟨G, hl, hGr, fun q h => (inA_none h).elim⟩, hK0⟩
 refine Vsk <| V_seq <| V_seq <| Vd1 (acts [8]) none_ [0, 1, 2, 3, 4, 5, 6, 7, 8, 9] fun w8 hk7 he9 K12 _ => ?_
 replace hd := hd.k0 hk7
 replace hb3 := hb3.k0 hk7
 replace hl := hl.keep hk7 nk
 replace hK0 := hK0.tn hk7
 have qhd := hd
 have qhb3 := hb3
 refine Gn [3, 4, 5, 6, 7, 8, 9] [5, 16] <| Mr 0 (pt l) qhd <| Gn [5, 6, 7, 8, 9] [5, 17, 18] <| Mr 1 (nt c.to) qhb3 <| Gn [7, 8, 9] [5, 17, 19, 20] <| Mr 2 (nt c.n) qhb3 <| Jg (transfer_spec G l u.xs u.cs 0 c.to c.n _ hl) ?_
 rintro _ w13 ⟨rfl, ⟨F15, ho16, hfr17⟩, hk14⟩
 refine ⟨_, rfl, ?_⟩
 have hsz18 := Keep.size hk14
 replace hb3 := hb3.keep hk14 (fun hs => by have h1 := hGd _ hs; have h2 := hGlt _ hs; omega)
 replace hK0 := Keep.fresh hK0 hk14 (fun i hi hs => by rcases hGr i hs with h | h; exact h; (exfalso; omega))
 have own20 : ∀ q, F15 q → 0 ≤ q ∧ q ≠ d ∧ q ≠ b1 ∧ q ≠ b3 := fun q hq => by rcases hfr17 q hq with h | h; (have h1 := hGd q h; have h2 := hGlt q h; omega); omega
 have lt19 := Led.lt ho16
 have rel21 : ∀ q, F15 q → G q ∨ w.heap.size ≤ q := fun q hq => by rcases hfr17 q hq with h | h; exact hGr q h; exact .inr (by omega)
 refine Gn [] [5, 8] <| GI_end <| X_then <| Vn [5, 8, 24] <| V_not (transE u.xs u.cs 0 c.to c.n = 0) (by kernel_rfl) (fun hc22 => ?_) (fun hc22 => ?_)
 ·
  refine Vn [6, 7] <| Rt ?_
  have hE23 : spS t c u = ([], transE u.xs u.cs 0 c.to c.n, rwTrn u 0 c.to c.n) := by unfold spS; rw [if_neg hc5, if_pos hc22]
  rw [hE23]
  exact Xr (.tuple #[.slice none 0 0, nt (transE u.xs u.cs 0 c.to c.n)]) ⟨none, 0, rfl, SlT.nil _ _ _, (fun q h => (inA_none h).elim), ⟨F15, ho16, rel21, fun q h => (inA_none h).elim⟩, hK0⟩
 refine Vsk <| Vr <| On 1 [5, 26] <| Lr 1 (nt c.to) hb3 <| On 3 [27, 28] <| Lr 2 (nt c.n) hb3 <| On 5 [30] <| OI_slit (E := 52) (zv := .agg #[nt 0, nt 0, nt 0]) (sz := 3) (by_ := 24) 27 1 #[(0, (Operand.tmp 30))] [.agg #[nt 3, nt c.to, nt c.n]] [nt 3, nt c.to, nt c.n] (some 31) (by kernel_rfl) (by kernel_rfl) (by kernel_rfl) (by omega) rfl (by omega) (by intro v hv; simp only [List.mem_cons, List.not_mem_nil, or_false] at hv; rcases hv with rfl <;> rfl) (by kernel_rfl) rfl ?_
 intro b24 w24 e24 hb24 k24 z24
 have hsz25 := Keep.size k24
 replace hK0 := hK0.tn k24
 replace ho16 := ho16.keep k24 nk
 have hb24lt := hb24.lt
 refine Oen [6, 7] <| V_ret ?_
 have hE26 : spS t c u = ([Evt.mk 3 c.to c.n], 0, rwTrn u 0 c.to c.n) := by unfold spS; rw [if_neg hc5, if_neg (fun h => h hc22)]
 rw [hE26]
 exact Xr (.tuple #[sl_ b24 0 1 1, nt 0]) ⟨(some ⟨b24, 0, none⟩), 1, rfl, slt_blk (xs := [Evt.mk 3 c.to c.n]) hb24 Evt.len rfl, (fun q h => by have h3 := inA_some h; omega), ⟨F15, ho16, rel21, fun q h1 h2 => by have h3 := inA_some h1; have h4 := lt19 q h2; omega⟩, hK0⟩
end Go.Al

namespace Go.Al
open Go Go.RowKit Go.Proofs
set_option maxHeartbeats 2000000 in
theorem batch_spec (D : Nat → Prop) (A : Option Addr) (cap : Nat) (kl : List CA) (d r g : Nat) (ts : List Trk) (v l : Nat) (of now : Int) (dk : CA → RW → RsA) (H F G : Nat → Prop) (u : RW) (w : World) (hIH : ∀ x ∈ kl, DoesAt d r g ts v l of now dk x) (hlen : ∀ x ∈ kl, ∀ u, (dk x u).1.length ≤ 300) (hrep : RepL D w A cap kl) (hd : Blk w d [pt l, pt v, pt r, nt of, nt now] 86) (hR : Rfr H w r g ts u.rs) (hV : VotT F w v u.s) (hl : Led G w l u.xs u.cs) (hHF : ∀ q, H q → ¬ F q) (hHG : ∀ q, H q → ¬ G q) (hFG : ∀ q, F q → ¬ G q) (hDo : ∀ q, D q → q < w.heap.size ∧ ¬ H q ∧ ¬ F q ∧ ¬ G q) (hdo : ¬ H d ∧ ¬ F d ∧ ¬ G d) (hn4 : kl.length ≤ 4) : Calls Tryz.prog 61 #[pt d, .slice A kl.length cap] w fun e w' => ∃ A' cap', e = .returned (.tuple #[.slice A' ((batS dk kl [] u).1).length cap', nt ((batS dk kl [] u).2.1)]) ∧ SlT w' 3 Evt.cells A' cap' ((batS dk kl [] u).1) ∧ (∀ q, inA A' q → w.heap.size ≤ q) ∧ (∃ H' F' G', Rfr H' w' r g ts (batS dk kl [] u).2.2.rs ∧ VotT F' w' v (batS dk kl [] u).2.2.s ∧ Led G' w' l (batS dk kl [] u).2.2.xs (batS dk kl [] u).2.2.cs ∧ (∀ q, H' q → H q ∨ w.heap.size ≤ q) ∧ (∀ q, F' q → F q ∨ w.heap.size ≤ q) ∧ (∀ q, G' q → G q ∨ w.heap.size ≤ q) ∧ (∀ q, H' q → ¬ F' q) ∧ (∀ q, H' q → ¬ G' q) ∧ (∀ q, F' q → ¬ G' q) ∧ (∀ q, inA A' q → ¬ H' q) ∧ (∀ q, inA A' q → ¬ F' q) ∧ (∀ q, inA A' q → ¬ G' q)) ∧ Keep (fun q => q = g ∨ F q ∨ G q) w w' := by
 have hdlt := hd.lt
 have hHlt := Rfr.lt hR
 have hFlt := VotT.lt hV
 have hGlt := Led.lt hl
 have hgH : H g := Rfr.atg hR
 have hHd : ∀ q, H q → 0 ≤ q ∧ q ≠ d := fun q hq => ⟨Nat.zero_le _, fun e => hdo.1 (e ▸ hq)⟩
 have hFd : ∀ q, F q → 0 ≤ q ∧ q ≠ d := fun q hq => ⟨Nat.zero_le _, fun e => hdo.2.1 (e ▸ hq)⟩
 have hGd : ∀ q, G q → 0 ≤ q ∧ q ≠ d := fun q hq => ⟨Nat.zero_le _, fun e => hdo.2.2 (e ▸ hq)⟩
 have hgo : ∀ q, only g q → q ≠ d ∧ q = g := fun q hq => ⟨fun e => hdo.1 (by rw [← e, show q = g from hq]; exact hgH), hq⟩
 have hgl : ∀ q, only g q → q < w.heap.size := fun q hq => by rw [show q = g from hq]; exact hHlt _ hgH
 have hHr : ∀ q, H q → H q ∨ w.heap.size ≤ q := fun _ h => .inl h
 have hFr : ∀ q, F q → F q ∨ w.heap.size ≤ q := fun _ h => .inl h
 have hGr : ∀ q, G q → G q ∨ w.heap.size ≤ q := fun _ h => .inl h
 have hDlt : ∀ q, D q → q < w.heap.size := fun q hq => (hDo q hq).1
 have hK0 : Keep (fun q => q = g ∨ F q ∨ G q) w w := Keep.refl _ _
 have hzhK0 := Keep.size hK0
 refine eV ?_
 refine Vr <| On 2 [0, 1] <| Oer <| On 1 [0, 1, 6] <| Oe <| V_seq <| Vn [0, 6, 11, 12, 13] <| V_block <| Vp [(0, pt d), (6, .slice none 0 0), (11, .slice A kl.length cap), (12, nt (kl.length : Int)), (13, nt 0)] <| V_loop (fun k wI e => ∃ i : Nat, ∃ ui : RW, ∃ Hk : Nat → Prop, ∃ Fk : Nat → Prop, ∃ Gk : Nat → Prop, ∃ A2 : Option Addr, ∃ cap2 : Nat, ∃ es : List Evt, (k + i = kl.length) ∧ (batS dk (kl.drop i) es ui = batS dk kl [] u) ∧ (es.length ≤ i * 300) ∧ (Rfr Hk wI r g ts ui.rs) ∧ (VotT Fk wI v ui.s) ∧ (Led Gk wI l ui.xs ui.cs) ∧ (∀ q, Hk q → H q ∨ w.heap.size ≤ q) ∧ (∀ q, Fk q → F q ∨ w.heap.size ≤ q) ∧ (∀ q, Gk q → G q ∨ w.heap.size ≤ q) ∧ (∀ q, Hk q → ¬ Fk q) ∧ (∀ q, Hk q → ¬ Gk q) ∧ (∀ q, Fk q → ¬ Gk q) ∧ (SlT wI 3 Evt.cells A2 cap2 es) ∧ (∀ q, inA A2 q → w.heap.size ≤ q) ∧ (∀ q, inA A2 q → ¬ Hk q) ∧ (∀ q, inA A2 q → ¬ Fk q) ∧ (∀ q, inA A2 q → ¬ Gk q) ∧ Keep (fun q => q = g ∨ F q ∨ G q) w wI ∧ e = [(0, pt d), (6, .slice A2 es.length cap2), (11, .slice A kl.length cap), (12, nt (kl.length : Int)), (13, nt (i : Int))]) kl.length ⟨0, u, H, F, G, none, 0, [], by omega, rfl, by simp, hR, hV, hl, hHr, hFr, hGr, hHF, hHG, hFG, SlT.nil _ _ _, fun q h => (inA_none h).elim, fun q h => (inA_none h).elim, fun q h => (inA_none h).elim, fun q h => (inA_none h).elim, Keep.refl _ _, rfl⟩ ?_
 rintro k2 w1 _ ⟨i, ui, Hk, Fk, Gk, A2, cap2, es, hki, hbs, hel, hRk, hVk, hLk, hHkr, hFkr, hGkr, dkHF, dkHG, dkFG, hA2, ow2, d2H, d2F, d2G, hk3, rfl⟩
 have hsz4 := Keep.size hk3
 replace hd := hd.keep hk3 (fun hs => by rcases hs with hs | hs | hs; exact hdo.1 (by rw [show d = g from hs]; exact hgH); exact hdo.2.1 hs; exact hdo.2.2 hs)
 replace hrep := RepL.keep hrep hk3 (fun q hq hs => by rcases hs with hs | hs | hs; exact (hDo q hq).2.1 (by rw [show q = g from hs]; exact hgH); exact (hDo q hq).2.2.1 hs; exact (hDo q hq).2.2.2 hs)
 replace hK0 := Keep.fresh hK0 hk3 (fun i hi hs => hs)
 have hzhk3 := Keep.size hk3
 have hHko : ∀ q, Hk q → 0 ≤ q ∧ q ≠ d := fun q hq => ⟨Nat.zero_le _, fun e => by rcases hHkr q hq with h | h; exact hdo.1 (e ▸ h); omega⟩
 have hFko : ∀ q, Fk q → 0 ≤ q ∧ q ≠ d := fun q hq => ⟨Nat.zero_le _, fun e => by rcases hFkr q hq with h | h; exact hdo.2.1 (e ▸ h); omega⟩
 have hGko : ∀ q, Gk q → 0 ≤ q ∧ q ≠ d := fun q hq => ⟨Nat.zero_le _, fun e => by rcases hGkr q hq with h | h; exact hdo.2.2 (e ▸ h); omega⟩
 have hHklt := Rfr.lt hRk
 have hFklt := VotT.lt hVk
 have hGklt := Led.lt hLk
 have lt2 := SlT.lt hA2
 have hA := hrep.1
 refine Vn [0, 6, 11, 12, 13, 14] <| V_seq <| Vi ((i : Int) < (kl.length : Int)) (fun hc5 => ?_) (fun hc5 => ?_)
 ·
  refine Vsk <| V_seq <| V_block <| Vr ?_
  obtain ⟨b6, o6, L6, rfl, hat6⟩ := ArgT.open_ hA (by first | omega | (simp only [List.length_map]; omega) | (simp; done) | (simp; omega))
  have hb6lt0 := ArgT.lt hA (by first | omega | (simp only [List.length_map]; omega) | (simp; done) | (simp; omega))
  have hb6lt := hat6.blk.lt
  refine Oi (b := b6) (o := o6) (len := kl.length) (cap := cap) (j := i) (some 15) 24 (.tmp 11) (.tmp 13) 26 4 48 .i64 ?_
  obtain ⟨x7, hx8⟩ : ∃ x, kl[i]? = some x := ⟨_, List.getElem?_eq_getElem (by first | omega | (simp only [List.length_map]; omega))⟩
  refine OI_aggR 26 (.tmp 15) (o6 + i * 4) (CA.cells x7) (some 16) (by kernel_rfl) (by kernel_rfl) hat6.blk (m := 4) (by kernel_rfl) (AtR.elem' hat6 _ _ (es_at hx8)) (AtR.len hat6 (es_at hx8)) <| Alc_ 26 (.agg #[nt 0, nt 0, nt 0, .slice none 0 0]) [nt 0, nt 0, nt 0, .slice none 0 0] ?_
  intro b9 w9 e9 hb9 k9 z9
  have hsz10 := Keep.size k9
  replace hd := hd.k0 k9
  replace hA2 := hA2.keep0 k9
  replace hrep := RepL.keep hrep k9 nk
  replace hK0 := hK0.tn k9
  replace hk3 := hk3.tn k9
  replace hRk := hRk.keep k9 nk
  replace hVk := hVk.keep k9 nk
  replace hLk := hLk.keep k9 nk
  have hb9lt := hb9.lt
  refine Sg 0 (CA.cells x7) hb9 (CA.len _) (CA.one _) ?_
  intro w11 hb9_14 hk12 hz13
  replace hb9_14 : Blk w11 b9 (CA.cells x7) 26 := (by rwa [over_whole (by rw [CA.len]; rfl)] at hb9_14)
  have hsz15 := Keep.size hk12
  replace hd := hd.k1 hk12
  replace hA2 := hA2.keep hk12 (fun q hq hs => by have hs : q = b9 := hs; have g0 := ow2 q hq; have g1 := lt2 q hq; omega)
  replace hrep := RepL.keep hrep hk12 (fun q hq hs => by have hs : q = b9 := hs; have g1 := hDlt q hq; omega)
  replace hK0 := Keep.fr hK0 hk12
  replace hk3 := Keep.fr hk3 hk12
  replace hRk := hRk.keep hk12 (fun q hq hs => by have hs : q = b9 := hs; have g0 := hHko q hq; have g1 := hHklt q hq; omega)
  replace hVk := hVk.keep hk12 (fun q hq hs => by have hs : q = b9 := hs; have g0 := hFko q hq; have g1 := hFklt q hq; omega)
  replace hLk := hLk.keep hk12 (fun q hq hs => by have hs : q = b9 := hs; have g0 := hGko q hq; have g1 := hGklt q hq; omega)
  refine Oer <| On 1 [0, 6, 8, 11, 12, 13, 18] <| La 0 (CA.cells x7) 4 hb9_14 (take_all (CA.len _)) (CA.len _) ?_
  have hlx := hlen x7 (List.mem_of_getElem? hx8) ui
  have hDo2 : ∀ q, D q → q < w11.heap.size ∧ ¬ Hk q ∧ ¬ Fk q ∧ ¬ Gk q := fun q hq => ⟨by have h1 := hDlt q hq; omega, ((fun (q : Nat) (h1 : D q) (h2 : Hk q) => by rcases hHkr q h2 with h | h; exact (hDo q h1).2.1 h; (have h3 := hDlt q h1; omega))) q hq, ((fun (q : Nat) (h1 : D q) (h2 : Fk q) => by rcases hFkr q h2 with h | h; exact (hDo q h1).2.2.1 h; (have h3 := hDlt q h1; omega))) q hq, ((fun (q : Nat) (h1 : D q) (h2 : Gk q) => by rcases hGkr q h2 with h | h; exact (hDo q h1).2.2.2 h; (have h3 := hDlt q h1; omega))) q hq⟩
  have hdo2 : ¬ Hk d ∧ ¬ Fk d ∧ ¬ Gk d := ⟨fun h => (hHko d h).2 rfl, fun h => (hFko d h).2 rfl, fun h => (hGko d h).2 rfl⟩
  refine Kg (hIH x7 (List.mem_of_getElem? hx8) D Hk Fk Gk ui _ (hrep.2.2 x7 (List.mem_of_getElem? hx8)) hd hRk hVk hLk dkHF dkHG dkFG hDo2 hdo2) ?_
  rintro _ w16 ⟨A18, cap18, rfl, hA18, ow18, ⟨F19, F22, F25, ho20, ho23, ho26, hfr21, hfr24, hfr27, hdis28, hdis29, hdis30, dA31, dA32, dA33⟩, hk17⟩
  refine ⟨_, rfl, ?_⟩
  have hsz34 := Keep.size hk17
  replace hA2 := hA2.keep hk17 (fun q hq hs => by rcases hs with hs | hs | hs; exact d2H q hq (by rw [show q = g from hs]; exact (Rfr.atg hRk)); exact d2F q hq hs; exact d2G q hq hs)
  replace hK0 := Keep.fresh hK0 hk17 (fun i hi hs => by rcases hs with hs | hs | hs; (exact .inl hs); (rcases hFkr i hs with h | h; exact .inr <| .inl h; (exfalso; omega)); (rcases hGkr i hs with h | h; exact .inr <| .inr <| h; (exfalso; omega)))
  replace hk3 := Keep.fresh hk3 hk17 (fun i hi hs => by rcases hs with hs | hs | hs; (exact .inl hs); (rcases hFkr i hs with h | h; exact .inr <| .inl h; (exfalso; omega)); (rcases hGkr i hs with h | h; exact .inr <| .inr <| h; (exfalso; omega)))
  have own36 : ∀ q, F19 q → 0 ≤ q ∧ q ≠ d ∧ q ≠ b9 := fun q hq => by rcases hfr21 q hq with h | h; (have h1 := hHko q h; have h2 := hHklt q h; omega); omega
  have lt35 := Rfr.lt ho20
  have rel37 : ∀ q, F19 q → H q ∨ w.heap.size ≤ q := fun q hq => by rcases hfr21 q hq with h | h; exact hHkr q h; exact .inr (by omega)
  have dis38 : ∀ q, F19 q → ¬ inA A2 q := fun q h1 h2 => by rcases hfr21 q h1 with h | h; exact (fun q h1 h2 => d2H q h2 h1) q h h2; (have h4 := lt2 q h2; omega)
  have own40 : ∀ q, F22 q → 0 ≤ q ∧ q ≠ d ∧ q ≠ b9 := fun q hq => by rcases hfr24 q hq with h | h; (have h1 := hFko q h; have h2 := hFklt q h; omega); omega
  have lt39 := VotT.lt ho23
  have rel41 : ∀ q, F22 q → F q ∨ w.heap.size ≤ q := fun q hq => by rcases hfr24 q hq with h | h; exact hFkr q h; exact .inr (by omega)
  have dis42 : ∀ q, F22 q → ¬ inA A2 q := fun q h1 h2 => by rcases hfr24 q h1 with h | h; exact (fun q h1 h2 => d2F q h2 h1) q h h2; (have h4 := lt2 q h2; omega)
  have own44 : ∀ q, F25 q → 0 ≤ q ∧ q ≠ d ∧ q ≠ b9 := fun q hq => by rcases hfr27 q hq with h | h; (have h1 := hGko q h; have h2 := hGklt q h; omega); omega
  have lt43 := Led.lt ho26
  have rel45 : ∀ q, F25 q → G q ∨ w.heap.size ≤ q := fun q hq => by rcases hfr27 q hq with h | h; exact hGkr q h; exact .inr (by omega)
  have dis46 : ∀ q, F25 q → ¬ inA A2 q := fun q h1 h2 => by rcases hfr27 q h1 with h | h; exact (fun q h1 h2 => d2G q h2 h1) q h h2; (have h4 := lt2 q h2; omega)
  have ltA18 := SlT.lt hA18
  refine On 8 [0, 6, 9, 10, 11, 12, 13] <| Oer <| On 2 [0, 10, 11, 12, 13, 23, 24] ?_
  have hl47 : (dk x7 ui).1.length = ((dk x7 ui).1).length := rfl
  have hy47 := SlT.slr hA18
  refine OI_append (t := 27) (at2 := 27) (E := 52) (E2 := 52) (sz := 3) (by_ := 24) (zv := .agg #[nt 0, nt 0, nt 0]) (m := es.length) (k := ((dk x7 ui).1).length) (.tmp 23) (.tmp 24) (.slice A2 es.length cap2) (.slice A18 (((dk x7 ui).1).length) cap18) (some 25) (by kernel_rfl) (by kernel_rfl) (by kernel_rfl) (by kernel_rfl) (by kernel_rfl) (by kernel_rfl) (by kernel_rfl) (SlT.slr hA2) hy47 (fun u hu => by obtain ⟨z, _, hz⟩ := List.mem_flatMap.1 hu; exact Evt.one z u hz) (by first | omega | ((repeat first | rw [List.length_append] | rw [List.length_cons] | rw [List.length_nil] | rw [List.length_take] | rw [List.length_drop]) <;> omega)) (by omega) (by first | omega | ((repeat first | rw [List.length_append] | rw [List.length_cons] | rw [List.length_nil] | rw [List.length_take] | rw [List.length_drop]) <;> omega)) (by omega) ?_
  intro vv9 w47 hap
  obtain ⟨A47, cap47, rfl, hA47, hk47, own47x⟩ := app_many (f := Evt.cells) (xs := es) (ys := ((dk x7 ui).1)) (A := A2) (cap := cap2) hap hl47 Evt.len
  have own47 : ∀ q, inA A47 q → w.heap.size ≤ q := fun q hq => by rcases own47x q hq with h | h; (have h8 := ow2 q h; have h9 := lt2 q h; show w.heap.size ≤ q; omega); (show w.heap.size ≤ q; omega)
  have hsz48 := Keep.size hk47
  replace hK0 := Keep.fresh hK0 hk47 (by intro i hi hs; first | exact hs | (exfalso; have h1 := ow2 i hs; have h2 := lt2 i hs; omega) | (have h1 := ow2 i hs; have h2 := lt2 i hs; show _ ∨ _; omega))
  replace hk3 := Keep.fresh hk3 hk47 (by intro i hi hs; first | exact hs | (exfalso; have h1 := ow2 i hs; have h2 := lt2 i hs; omega) | (have h1 := ow2 i hs; have h2 := lt2 i hs; show _ ∨ _; omega))
  replace ho20 := ho20.keep hk47 (fun q hq hs => (fun q h1 h2 => dis38 q h2 h1) q hs hq)
  replace ho23 := ho23.keep hk47 (fun q hq hs => (fun q h1 h2 => dis42 q h2 h1) q hs hq)
  replace ho26 := ho26.keep hk47 (fun q hq hs => (fun q h1 h2 => dis46 q h2 h1) q hs hq)
  have lt47 := SlT.lt hA47
  have hcap47 := SlT.cap_le hA47
  have dis49 : ∀ q, inA A47 q → ¬ F19 q := fun q h1 h2 => by rcases own47x q h1 with h | h; exact dis38 q h2 h; (have h4 := lt35 q h2; omega)
  have dis50 : ∀ q, inA A47 q → ¬ F22 q := fun q h1 h2 => by rcases own47x q h1 with h | h; exact dis42 q h2 h; (have h4 := lt39 q h2; omega)
  have dis51 : ∀ q, inA A47 q → ¬ F25 q := fun q h1 h2 => by rcases own47x q h1 with h | h; exact dis46 q h2 h; (have h4 := lt43 q h2; omega)
  refine On 4 [0, 6, 10, 11, 12, 13] <| Oer <| Oen [0, 6, 10, 11, 12, 13, 27] <| V_not ((dk x7 ui).2.1 = 0) (by kernel_rfl) (fun hc52 => ?_) (fun hc52 => ?_)
  ·
   refine Vn [4, 5] <| V_ret <| X_ret_block <| X_ret_then <| X_ret_then <| X_ret_block <| X_ret_then ?_
   have hE : batS dk kl [] u = (es ++ (dk x7 ui).1, (dk x7 ui).2.1, (dk x7 ui).2.2) := hbs.symm.trans (batS_no hx8 hc52)
   rw [hE]
   exact Xr (.tuple #[.slice A47 ((es ++ ((dk x7 ui).1)).length) cap47, nt ((dk x7 ui).2.1)]) ⟨A47, cap47, rfl, hA47, own47, ⟨F19, F22, F25, ho20, ho23, ho26, rel37, rel41, rel45, hdis28, hdis29, hdis30, dis49, dis50, dis51⟩, hK0⟩
  refine V_skip <| X_block <| X_then <| V_region ?_
  have hw53 : IntKind.i64.wrap ((i : Int) + 1) = ((i + 1 : Nat) : Int) := (wrap64_id (by omega) (by omega)).trans (by omega)
  refine On 1 [0, 6, 11, 12, 30] <| Oq (u := nt (IntKind.i64.wrap ((i : Int) + 1))) (v := nt ((i + 1 : Nat) : Int)) 30 (by rw [hw53]) <| Os 2 [(0, pt d), (6, .slice A47 ((es ++ ((dk x7 ui).1)).length) cap47), (11, sl_ b6 o6 kl.length cap), (12, nt (kl.length : Int)), (13, nt ((i + 1 : Nat) : Int))] <| OI_end rfl ?_
  have he0 : (dk x7 ui).2.1 = 0 := hc52
  exact V_again (k2 - 1) (by omega) [(0, pt d), (6, .slice A47 ((es ++ ((dk x7 ui).1)).length) cap47), (11, sl_ b6 o6 kl.length cap), (12, nt (kl.length : Int)), (13, nt ((i + 1 : Nat) : Int))] rfl ⟨i + 1, (dk x7 ui).2.2, F19, F22, F25, A47, cap47, (es ++ ((dk x7 ui).1)), by omega, by rw [← batS_go hx8 he0]; exact hbs, by rw [List.length_append]; omega, ho20, ho23, ho26, rel37, rel41, rel45, hdis28, hdis29, hdis30, hA47, own47, dis49, dis50, dis51, hk3, rfl⟩
 refine V_exit <| X_exit_then <| X_exit_then <| X_exit_here <| X_then <| Vn [4, 5] <| V_ret ?_
 have he : i = kl.length := by omega
 have hE : batS dk kl [] u = (es, 0, ui) := by rw [← hbs, he, List.drop_length]; rfl
 rw [hE]
 exact Xr (.tuple #[.slice A2 es.length cap2, nt 0]) ⟨A2, cap2, rfl, hA2, ow2, ⟨Hk, Fk, Gk, hRk, hVk, hLk, hHkr, hFkr, hGkr, dkHF, dkHG, dkFG, d2H, d2F, d2G⟩, hK0⟩
end Go.Al

namespace Go.Al
open Go Go.RowKit Go.Proofs
set_option maxHeartbeats 2000000 in
theorem does_step (d r g : Nat) (ts : List Trk) (v l : Nat) (of now : Int) (dk : CA → RW → RsA) (c : CA) (hIH : c.k = 5 → ∀ x ∈ c.kids, DoesAt d r g ts v l of now dk x) (hlen : c.k = 5 → c.kids.length ≤ 4 ∧ ∀ x ∈ c.kids, ∀ u, (dk x u).1.length ≤ 300) : DoesAt d r g ts v l of now (doS ts of now dk) c := by
 intro D H F G u w hrep hd hR hV hl hHF hHG hFG hDo hdo
 have hdlt := hd.lt
 have hHlt := Rfr.lt hR
 have hFlt := VotT.lt hV
 have hGlt := Led.lt hl
 have hgH : H g := Rfr.atg hR
 have hHd : ∀ q, H q → 0 ≤ q ∧ q ≠ d := fun q hq => ⟨Nat.zero_le _, fun e => hdo.1 (e ▸ hq)⟩
 have hFd : ∀ q, F q → 0 ≤ q ∧ q ≠ d := fun q hq => ⟨Nat.zero_le _, fun e => hdo.2.1 (e ▸ hq)⟩
 have hGd : ∀ q, G q → 0 ≤ q ∧ q ≠ d := fun q hq => ⟨Nat.zero_le _, fun e => hdo.2.2 (e ▸ hq)⟩
 have hgo : ∀ q, only g q → q ≠ d ∧ q = g := fun q hq => ⟨fun e => hdo.1 (by rw [← e, show q = g from hq]; exact hgH), hq⟩
 have hgl : ∀ q, only g q → q < w.heap.size := fun q hq => by rw [show q = g from hq]; exact hHlt _ hgH
 have hHr : ∀ q, H q → H q ∨ w.heap.size ≤ q := fun _ h => .inl h
 have hFr : ∀ q, F q → F q ∨ w.heap.size ≤ q := fun _ h => .inl h
 have hGr : ∀ q, G q → G q ∨ w.heap.size ≤ q := fun _ h => .inl h
 have hDlt : ∀ q, D q → q < w.heap.size := fun q hq => (hDo q hq).1
 have hK0 : Keep (fun q => q = g ∨ F q ∨ G q) w w := Keep.refl _ _
 have hzhK0 := Keep.size hK0
 refine eV ?_
 refine Vr <| OI_box 26 (.tmp 1) (.agg (CA.cells c).toArray) (CA.cells c) (some 3) (by kernel_rfl) (by kernel_rfl) rfl ?_
 intro b1 w1 e1 hb1 k1 z1
 have hsz2 := Keep.size k1
 replace hR := hR.keep k1 nk
 replace hV := hV.keep k1 nk
 replace hl := hl.keep k1 nk
 replace hrep := RepIn.keep hrep k1 nk
 replace hK0 := hK0.tn k1
 have hb1lt := hb1.lt
 refine Oen [0, 3] <| V_seq <| V_draws (acts [8, 12, 13]) none_ [[0, 1, 2, 3, 4, 5, 6, 7, 8, 12, 9, 10, 13, 11, 14], [12, 0, 1, 2, 3, 4, 5, 6, 7, 8, 9, 10, 13, 11, 14]] (by kernel_rfl) (by repeat first | exact (by first | exact sure_body (by rintro _ _ ⟨_, _, h, _⟩; exact ⟨_, h⟩) | exact sure_body (by rintro _ _ ⟨_, _, h, _⟩; exact ⟨_, h⟩)) | refine sure_then ?_ | refine sure_block ?_ | refine sure_join ?_) (by kernel_rfl) ?_
 intro w4 hk3 he5 L hL6
 have hsz7 := Keep.size hk3
 replace hd := hd.k0 (k1.tr hk3)
 replace hb1 := hb1.k0 hk3
 replace hR := hR.keep hk3 nk
 replace hV := hV.keep hk3 nk
 replace hl := hl.keep hk3 nk
 replace hrep := RepIn.keep hrep hk3 nk
 replace hK0 := hK0.tn hk3
 have qhd := hd
 have qhb1 := hb1
 have K8 : Keep none_ w4 w4 := Keep.refl _ _
 simp only [List.mem_cons, List.not_mem_nil, or_false] at hL6
 rcases hL6 with rfl | rfl
 ·
  refine Gn [3, 4, 5, 6, 7, 8, 12, 9, 10, 13, 11, 14] [0, 3, 11] <| Mr 2 (pt r) qhd <| Gn [7, 8, 12, 9, 10, 13, 11, 14] [0, 3, 12, 15] <| Mr 3 (nt of) qhd <| Hg (rtrack_spec H r g ts u.rs of _ hR) ?_
  rintro _ w11 ⟨rfl, hk12⟩
  have K13 := K8.tr (Keep.ofNone hk12)
  refine ⟨_, rfl, K13, ?_⟩
  have hzK13 := Keep.size K13
  have hsz14 := Keep.size hk12
  replace hR := hR.keep hk12 nk
  replace hV := hV.keep hk12 nk
  replace hl := hl.keep hk12 nk
  replace hrep := RepIn.keep hrep hk12 nk
  replace hK0 := hK0.tn hk12
  refine GI_alloc 80 (.agg (Trk.cells Trk.zero).toArray) (Trk.cells Trk.zero) (some 6) (by kernel_rfl) (by kernel_rfl) K13 (by kernel_rfl) (by kernel_rfl) ?_
  intro b15 w15 e15 hb15 k15 z15 K16
  have hsz17 := Keep.size k15
  replace hd := hd.k0 (hk12.tr k15)
  replace hb1 := hb1.k0 (hk12.tr k15)
  replace hR := hR.keep k15 nk
  replace hV := hV.keep k15 nk
  replace hl := hl.keep k15 nk
  replace hrep := RepIn.keep hrep k15 nk
  replace hK0 := hK0.tn k15
  have hb15lt := hb15.lt
  refine Gn [13, 11, 14] [0, 3, 6, 8, 18] <| GI_set (m := 18) (kd := true) 80 (.tmp 6) (.tmp 18) 0 (.agg (Trk.cells (trkA ts of)).toArray) (Trk.cells (trkA ts of)) none (by kernel_rfl) (by kernel_rfl) (by kernel_rfl) (by kernel_rfl) hb15 (by kernel_rfl) rfl (Trk.len _) (Nat.le_of_ble_eq_true (by kernel_rfl)) (Trk.one _) K16 (fun hh => absurd hh (by omega)) ?_
  intro w18 hb15_21 hk19 hz20 K22
  replace hb15_21 : Blk w18 b15 (Trk.cells (trkA ts of)) 80 := (Blk.eqL (Trk.over _ _) hb15_21)
  have hsz23 := Keep.size hk19
  replace hd := hd.k1 hk19
  replace hb1 := hb1.k1 hk19
  replace hR := hR.keep hk19 (fun q hq hs => by have hs : q = b15 := hs; have g0 := hHd q hq; have g1 := hHlt q hq; omega)
  replace hV := hV.keep hk19 (fun q hq hs => by have hs : q = b15 := hs; have g0 := hFd q hq; have g1 := hFlt q hq; omega)
  replace hl := hl.keep hk19 (fun q hq hs => by have hs : q = b15 := hs; have g0 := hGd q hq; have g1 := hGlt q hq; omega)
  replace hrep := RepIn.keep hrep hk19 (fun q hq hs => by have hs : q = b15 := hs; have g1 := hDlt q hq; omega)
  replace hK0 := Keep.fr hK0 hk19
  refine Gn [] [0, 3, 6] <| GI_end <| X_then <| V_seq <| Vr <| On 1 [0, 3, 6, 20] <| Lr 0 (nt c.k) hb1 <| Oe <| V_block <| Vn [0, 3, 6, 21, 22] <| Vi (c.k = 1) (fun hc24 => ?_) (fun hc24 => ?_)
  ·
   refine V_seq <| V_draws (acts [7]) none_ [[0, 1, 2, 3, 4, 5, 6, 7, 8, 9]] (by kernel_rfl) (by repeat first | exact (by first | exact sure_body (by rintro _ _ ⟨_, _, h, _⟩; exact ⟨_, h⟩) | exact sure_body (by rintro _ _ ⟨_, _, h, _⟩; exact ⟨_, h⟩)) | refine sure_then ?_ | refine sure_block ?_ | refine sure_join ?_) (by kernel_rfl) ?_
   intro w26 hk25 he27 L hL28
   have hsz29 := Keep.size hk25
   replace hd := hd.k0 hk25
   replace hb1 := hb1.k0 hk25
   replace hR := hR.keep hk25 nk
   replace hV := hV.keep hk25 nk
   replace hl := hl.keep hk25 nk
   replace hK0 := hK0.tn hk25
   have qhd := hd
   have qhb1 := hb1
   have K30 : Keep none_ w26 w26 := Keep.refl _ _
   obtain rfl := List.mem_singleton.1 hL28
   refine Gn [3, 4, 5, 6, 7, 8, 9] [3, 26] <| Mr 3 (nt of) qhd <| Gn [5, 6, 7, 8, 9] [27, 28] <| Mr 2 (nt c.n) qhb1 <| Gn [7, 8, 9] [30] <| GI_slit (E := 52) (zv := .agg #[nt 0, nt 0, nt 0]) (sz := 3) (by_ := 24) 27 1 #[(0, (Operand.tmp 30))] [.agg #[nt 5, nt of, nt c.n]] [nt 5, nt of, nt c.n] (some 31) (by kernel_rfl) (by kernel_rfl) K30 (by kernel_rfl) (by kernel_rfl) (by omega) rfl (by omega) (by intro v hv; simp only [List.mem_cons, List.not_mem_nil, or_false] at hv; rcases hv with rfl <;> rfl) (by kernel_rfl) rfl ?_
   intro b31 w31 e31 hb31 k31 z31 K32
   have hsz33 := Keep.size k31
   replace hR := hR.keep k31 nk
   replace hV := hV.keep k31 nk
   replace hl := hl.keep k31 nk
   replace hK0 := hK0.tn k31
   have hb31lt := hb31.lt
   refine Gn [] [4, 5] <| GI_end <| X_then <| V_ret <| X_ret_block <| X_ret_then ?_
   have hE : doS ts of now dk c u = ([Evt.mk 5 of c.n], 0, u) := by unfold doS; rw [if_pos hc24]
   rw [hE]
   exact Xr (.tuple #[sl_ b31 0 1 1, nt 0]) ⟨(some ⟨b31, 0, none⟩), 1, rfl, slt_blk (xs := [Evt.mk 5 of c.n]) hb31 Evt.len rfl, (fun q h => by have h3 := inA_some h; omega), ⟨H, F, G, hR, hV, hl, hHr, hFr, hGr, hHF, hHG, hFG, fun q h1 h2 => by have h3 := inA_some h1; have h4 := hHlt q h2; omega, fun q h1 h2 => by have h3 := inA_some h1; have h4 := hFlt q h2; omega, fun q h1 h2 => by have h3 := inA_some h1; have h4 := hGlt q h2; omega⟩, hK0⟩
  refine Vn [0, 3, 6, 21, 32] <| Vi (c.k = 2) (fun hc34 => ?_) (fun hc34 => ?_)
  ·
   refine Vr <| On 1 [3, 6, 34] <| La 0 (Trk.cells (trkA ts of)) 18 hb15_21 (take_all (Trk.len _)) (Trk.len _) <| La 0 (CA.cells c) 4 hb1 (take_all (CA.len _)) (CA.len _) <| Kg (spend_spec (trkA ts of) c d v l r of now G u _ hd hl hdo.2.2) ?_
   rintro _ w37 ⟨A39, cap39, rfl, hA39, ow39, ⟨F40, ho41, hfr42, dA43⟩, hk38⟩
   refine ⟨_, rfl, ?_⟩
   have hsz44 := Keep.size hk38
   replace hR := hR.keep hk38 (fun q hq hs => hHG q hq hs)
   replace hV := hV.keep hk38 (fun q hq hs => hFG q hq hs)
   replace hK0 := Keep.fresh hK0 hk38 (fun i hi hs => by rcases hGr i hs with h | h; exact .inr <| .inr <| h; (exfalso; omega))
   have own46 : ∀ q, F40 q → 0 ≤ q ∧ q ≠ d ∧ q ≠ b1 ∧ q ≠ b15 := fun q hq => by rcases hfr42 q hq with h | h; (have h1 := hGd q h; have h2 := hGlt q h; omega); omega
   have lt45 := Led.lt ho41
   have rel47 : ∀ q, F40 q → G q ∨ w.heap.size ≤ q := fun q hq => by rcases hfr42 q hq with h | h; exact hGr q h; exact .inr (by omega)
   have dis48 : ∀ q, F40 q → ¬ H q := fun q h1 h2 => by rcases hfr42 q h1 with h | h; exact (fun q h1 h2 => hHG q h2 h1) q h h2; (have h4 := hHlt q h2; omega)
   have dis49 : ∀ q, F40 q → ¬ F q := fun q h1 h2 => by rcases hfr42 q h1 with h | h; exact (fun q h1 h2 => hFG q h2 h1) q h h2; (have h4 := hFlt q h2; omega)
   have ltA39 := SlT.lt hA39
   have dis50 : ∀ q, inA A39 q → ¬ H q := fun q h1 h2 => by have h3 := ow39 q h1; have h4 := hHlt q h2; omega
   have dis51 : ∀ q, inA A39 q → ¬ F q := fun q h1 h2 => by have h3 := ow39 q h1; have h4 := hFlt q h2; omega
   refine Oen [4, 5] <| V_ret <| X_ret_block <| X_ret_then ?_
   have hE : doS ts of now dk c u = spS (trkA ts of) c u := by unfold doS; rw [if_neg hc24, if_pos hc34]
   rw [hE]
   exact Xr (.tuple #[.slice A39 (((spS (trkA ts of) c u).1).length) cap39, nt ((spS (trkA ts of) c u).2.1)]) ⟨A39, cap39, rfl, hA39, (fun q h => by have h1 := ow39 q h; omega), ⟨H, F, F40, (by rw [spS_rs]; exact hR), (by rw [spS_s]; exact hV), ho41, hHr, hFr, rel47, hHF, (fun q h1 h2 => dis48 q h2 h1), (fun q h1 h2 => dis49 q h2 h1), (dis50), (dis51), (dA43)⟩, hK0⟩
  refine Vn [0, 3, 6, 21, 40] <| Vi (c.k = 5) (fun hc52 => ?_) (fun hc52 => ?_)
  ·
   refine Vr <| On 2 [42, 43] <| Lr 3 (.slice c.A c.kids.length c.cap) hb1 ?_
   have hk5 : c.k = 5 := hc52
   refine Kg (batch_spec D c.A c.cap c.kids d r g ts v l of now dk H F G u _ (fun x hx => hIH hk5 x hx) (fun x hx => (hlen hk5).2 x hx) hrep.l hd hR hV hl hHF hHG hFG (fun q hq => ⟨by have h1 := hDlt q hq; omega, (hDo q hq).2⟩) hdo (hlen hk5).1) ?_
   rintro _ w55 ⟨A57, cap57, rfl, hA57, ow57, ⟨F58, F61, F64, ho59, ho62, ho65, hfr60, hfr63, hfr66, hdis67, hdis68, hdis69, dA70, dA71, dA72⟩, hk56⟩
   refine ⟨_, rfl, ?_⟩
   have hsz73 := Keep.size hk56
   replace hK0 := Keep.fresh hK0 hk56 (fun i hi hs => by rcases hs with hs | hs | hs; (exact .inl hs); (rcases hFr i hs with h | h; exact .inr <| .inl h; (exfalso; omega)); (rcases hGr i hs with h | h; exact .inr <| .inr <| h; (exfalso; omega)))
   have own75 : ∀ q, F58 q → 0 ≤ q ∧ q ≠ d ∧ q ≠ b1 ∧ q ≠ b15 := fun q hq => by rcases hfr60 q hq with h | h; (have h1 := hHd q h; have h2 := hHlt q h; omega); omega
   have lt74 := Rfr.lt ho59
   have rel76 : ∀ q, F58 q → H q ∨ w.heap.size ≤ q := fun q hq => by rcases hfr60 q hq with h | h; exact hHr q h; exact .inr (by omega)
   have own78 : ∀ q, F61 q → 0 ≤ q ∧ q ≠ d ∧ q ≠ b1 ∧ q ≠ b15 := fun q hq => by rcases hfr63 q hq with h | h; (have h1 := hFd q h; have h2 := hFlt q h; omega); omega
   have lt77 := VotT.lt ho62
   have rel79 : ∀ q, F61 q → F q ∨ w.heap.size ≤ q := fun q hq => by rcases hfr63 q hq with h | h; exact hFr q h; exact .inr (by omega)
   have own81 : ∀ q, F64 q → 0 ≤ q ∧ q ≠ d ∧ q ≠ b1 ∧ q ≠ b15 := fun q hq => by rcases hfr66 q hq with h | h; (have h1 := hGd q h; have h2 := hGlt q h; omega); omega
   have lt80 := Led.lt ho65
   have rel82 : ∀ q, F64 q → G q ∨ w.heap.size ≤ q := fun q hq => by rcases hfr66 q hq with h | h; exact hGr q h; exact .inr (by omega)
   have ltA57 := SlT.lt hA57
   refine Oen [4, 5] <| V_ret <| X_ret_block <| X_ret_then ?_
   have hE : doS ts of now dk c u = batS dk c.kids [] u := by unfold doS; rw [if_neg hc24, if_neg hc34, if_pos hc52]
   rw [hE]
   exact Xr (.tuple #[.slice A57 (((batS dk c.kids [] u).1).length) cap57, nt ((batS dk c.kids [] u).2.1)]) ⟨A57, cap57, rfl, hA57, (fun q h => by have h1 := ow57 q h; omega), ⟨F58, F61, F64, ho59, ho62, ho65, rel76, rel79, rel82, hdis67, hdis68, hdis69, (dA70), (dA71), (dA72)⟩, hK0⟩
  refine Vn [0, 3, 6, 48] <| Vi (c.k = 3) (fun hc83 => ?_) (fun hc83 => ?_)
  ·
   refine V_seq <| Vr <| On 1 [0, 3, 50] <| Lr 17 (nt ((trkA ts of).rank)) hb15_21 <| Oen [0, 3, 52] <| Vi ((trkA ts of).rank < 1) (fun hc84 => ?_) (fun hc84 => ?_)
   ·
    refine Vn [4, 5] <| Rt <| X_ret_block <| X_ret_then ?_
    have hE : doS ts of now dk c u = ([], 8, u) := by unfold doS; rw [if_neg hc24, if_neg hc34, if_neg hc52, if_pos hc83, if_pos hc84]
    rw [hE]
    exact Xr (.tuple #[.slice none 0 0, nt 8]) ⟨none, 0, rfl, SlT.nil _ _ _, (fun q h => (inA_none h).elim), ⟨H, F, G, hR, hV, hl, hHr, hFr, hGr, hHF, hHG, hFG, fun q h => (inA_none h).elim, fun q h => (inA_none h).elim, fun q h => (inA_none h).elim⟩, hK0⟩
   refine Vsk <| V_seq <| V_draws (acts [14]) none_ [[0, 1, 2, 3, 4, 5, 6, 7, 8, 9, 10, 11, 12, 13, 14, 15, 16, 17, 18]] (by kernel_rfl) (by repeat first | exact (by first | exact sure_body (by rintro _ _ ⟨_, _, h, _⟩; exact ⟨_, h⟩) | exact sure_body (by rintro _ _ ⟨_, _, h, _⟩; exact ⟨_, h⟩)) | refine sure_then ?_ | refine sure_block ?_ | refine sure_join ?_) (by kernel_rfl) ?_
   intro w86 hk85 he87 L hL88
   have hsz89 := Keep.size hk85
   replace hd := hd.k0 hk85
   replace hb1 := hb1.k0 hk85
   replace hR := hR.keep hk85 nk
   replace hV := hV.keep hk85 nk
   replace hl := hl.keep hk85 nk
   replace hK0 := hK0.tn hk85
   have qhd := hd
   have qhb1 := hb1
   have K90 : Keep none_ w86 w86 := Keep.refl _ _
   obtain rfl := List.mem_singleton.1 hL88
   refine Gn [3, 4, 5, 6, 7, 8, 9, 10, 11, 12, 13, 14, 15, 16, 17, 18] [0, 3, 55] <| Mr 2 (pt r) qhd <| Gn [7, 8, 9, 10, 11, 12, 13, 14, 15, 16, 17, 18] [0, 3, 56, 59] <| Mr 1 (pt v) qhd <| Gn [9, 10, 11, 12, 13, 14, 15, 16, 17, 18] [0, 56, 60, 61] <| Mr 2 (nt c.n) qhb1 <| Gn [13, 14, 15, 16, 17, 18] [56, 60, 62, 65] <| Mr 4 (nt now) qhd <| Jg (cancel_spec H r g ts u.rs F v u.s c.n now _ hR hV hHF) ?_
   rintro _ w93 ⟨A95, cap95, rfl, hA95, ow95, ⟨F96, F99, ho97, ho100, hfr98, hfr101, hdis102, dA103, dA104⟩, hk94⟩
   refine ⟨_, rfl, ?_⟩
   have hsz105 := Keep.size hk94
   replace hl := hl.keep hk94 (fun q hq hs => by rcases hs with hs | hs; exact (fun q h1 h2 => hHG q h2 h1) q hq (by rw [show q = g from hs]; exact hgH); exact (fun q h1 h2 => hFG q h2 h1) q hq hs)
   replace hK0 := Keep.fresh hK0 hk94 (fun i hi hs => by rcases hs with hs | hs; (exact .inl hs); (rcases hFr i hs with h | h; exact .inr <| .inl h; (exfalso; omega)))
   have own107 : ∀ q, F96 q → 0 ≤ q ∧ q ≠ d ∧ q ≠ b1 ∧ q ≠ b15 := fun q hq => by rcases hfr98 q hq with h | h; (have h1 := hHd q h; have h2 := hHlt q h; omega); omega
   have lt106 := Rfr.lt ho97
   have rel108 : ∀ q, F96 q → H q ∨ w.heap.size ≤ q := fun q hq => by rcases hfr98 q hq with h | h; exact hHr q h; exact .inr (by omega)
   have dis109 : ∀ q, F96 q → ¬ G q := fun q h1 h2 => by rcases hfr98 q h1 with h | h; exact hHG q h h2; (have h4 := hGlt q h2; omega)
   have own111 : ∀ q, F99 q → 0 ≤ q ∧ q ≠ d ∧ q ≠ b1 ∧ q ≠ b15 := fun q hq => by rcases hfr101 q hq with h | h; (have h1 := hFd q h; have h2 := hFlt q h; omega); omega
   have lt110 := VotT.lt ho100
   have rel112 : ∀ q, F99 q → F q ∨ w.heap.size ≤ q := fun q hq => by rcases hfr101 q hq with h | h; exact hFr q h; exact .inr (by omega)
   have dis113 : ∀ q, F99 q → ¬ G q := fun q h1 h2 => by rcases hfr101 q h1 with h | h; exact hFG q h h2; (have h4 := hGlt q h2; omega)
   have ltA95 := SlT.lt hA95
   have dis114 : ∀ q, inA A95 q → ¬ G q := fun q h1 h2 => by have h3 := ow95 q h1; have h4 := hGlt q h2; omega
   refine Gn [] [4, 5] <| GI_end <| X_then <| V_ret <| X_ret_block <| X_ret_then ?_
   have hE : doS ts of now dk c u = (canL u.rs c.n, ongE u.rs c.n, rwCan u c.n now) := by unfold doS; rw [if_neg hc24, if_neg hc34, if_neg hc52, if_pos hc83, if_neg hc84]
   rw [hE]
   exact Xr (.tuple #[.slice A95 ((canL u.rs c.n).length) cap95, nt (ongE u.rs c.n)]) ⟨A95, cap95, rfl, hA95, (fun q h => by have h1 := ow95 q h; omega), ⟨F96, F99, G, ho97, ho100, hl, rel108, rel112, hGr, hdis102, dis109, dis113, (dA103), (dA104), (dis114)⟩, hK0⟩
  refine V_skip <| X_block <| X_then <| V_seq <| Vr <| On 1 [0, 3, 70] <| Lr 17 (nt ((trkA ts of).rank)) hb15_21 <| Oen [0, 3, 72] <| Vi ((trkA ts of).rank < 2) (fun hc115 => ?_) (fun hc115 => ?_)
  ·
   refine Vn [4, 5] <| Rt ?_
   have hE : doS ts of now dk c u = ([], 8, u) := by unfold doS; rw [if_neg hc24, if_neg hc34, if_neg hc52, if_neg hc83, if_pos hc115]
   rw [hE]
   exact Xr (.tuple #[.slice none 0 0, nt 8]) ⟨none, 0, rfl, SlT.nil _ _ _, (fun q h => (inA_none h).elim), ⟨H, F, G, hR, hV, hl, hHr, hFr, hGr, hHF, hHG, hFG, fun q h => (inA_none h).elim, fun q h => (inA_none h).elim, fun q h => (inA_none h).elim⟩, hK0⟩
  refine Vsk <| V_seq <| V_draws (acts [18]) none_ [[0, 1, 2, 3, 4, 5, 6, 7, 8, 9, 10, 11, 12, 13, 14, 15, 16, 17, 18, 19, 20, 21, 22]] (by kernel_rfl) (by repeat first | exact (by first | exact sure_body (by rintro _ _ ⟨_, _, h, _⟩; exact ⟨_, h⟩) | exact sure_body (by rintro _ _ ⟨_, _, h, _⟩; exact ⟨_, h⟩)) | refine sure_then ?_ | refine sure_block ?_ | refine sure_join ?_) (by kernel_rfl) ?_
  intro w117 hk116 he118 L hL119
  have hsz120 := Keep.size hk116
  replace hd := hd.k0 hk116
  replace hb1 := hb1.k0 hk116
  replace hR := hR.keep hk116 nk
  replace hV := hV.keep hk116 nk
  replace hl := hl.keep hk116 nk
  replace hK0 := hK0.tn hk116
  have qhd := hd
  have qhb1 := hb1
  have K121 : Keep none_ w117 w117 := Keep.refl _ _
  obtain rfl := List.mem_singleton.1 hL119
  refine Gn [3, 4, 5, 6, 7, 8, 9, 10, 11, 12, 13, 14, 15, 16, 17, 18, 19, 20, 21, 22] [0, 3, 75] <| Mr 2 (pt r) qhd <| Gn [7, 8, 9, 10, 11, 12, 13, 14, 15, 16, 17, 18, 19, 20, 21, 22] [0, 3, 76, 79] <| Mr 0 (pt l) qhd <| Gn [11, 12, 13, 14, 15, 16, 17, 18, 19, 20, 21, 22] [0, 3, 76, 80, 83] <| Mr 1 (pt v) qhd <| Gn [13, 14, 15, 16, 17, 18, 19, 20, 21, 22] [0, 76, 80, 84, 85] <| Mr 2 (nt c.n) qhb1 <| Gn [17, 18, 19, 20, 21, 22] [76, 80, 84, 86, 89] <| Mr 4 (nt now) qhd <| Jg (kill_spec H r g ts u.rs F v u.s G l u.xs u.cs c.n now _ hR hV hl hHF hHG hFG) ?_
  rintro _ w124 ⟨A126, cap126, rfl, hA126, ow126, ⟨F127, F130, F133, ho128, ho131, ho134, hfr129, hfr132, hfr135, hdis136, hdis137, hdis138, dA139, dA140, dA141⟩, hk125⟩
  refine ⟨_, rfl, ?_⟩
  have hsz142 := Keep.size hk125
  replace hK0 := Keep.fresh hK0 hk125 (fun i hi hs => by rcases hs with hs | hs | hs; (exact .inl hs); (rcases hFr i hs with h | h; exact .inr <| .inl h; (exfalso; omega)); (rcases hGr i hs with h | h; exact .inr <| .inr <| h; (exfalso; omega)))
  have own144 : ∀ q, F127 q → 0 ≤ q ∧ q ≠ d ∧ q ≠ b1 ∧ q ≠ b15 := fun q hq => by rcases hfr129 q hq with h | h; (have h1 := hHd q h; have h2 := hHlt q h; omega); omega
  have lt143 := Rfr.lt ho128
  have rel145 : ∀ q, F127 q → H q ∨ w.heap.size ≤ q := fun q hq => by rcases hfr129 q hq with h | h; exact hHr q h; exact .inr (by omega)
  have own147 : ∀ q, F130 q → 0 ≤ q ∧ q ≠ d ∧ q ≠ b1 ∧ q ≠ b15 := fun q hq => by rcases hfr132 q hq with h | h; (have h1 := hFd q h; have h2 := hFlt q h; omega); omega
  have lt146 := VotT.lt ho131
  have rel148 : ∀ q, F130 q → F q ∨ w.heap.size ≤ q := fun q hq => by rcases hfr132 q hq with h | h; exact hFr q h; exact .inr (by omega)
  have own150 : ∀ q, F133 q → 0 ≤ q ∧ q ≠ d ∧ q ≠ b1 ∧ q ≠ b15 := fun q hq => by rcases hfr135 q hq with h | h; (have h1 := hGd q h; have h2 := hGlt q h; omega); omega
  have lt149 := Led.lt ho134
  have rel151 : ∀ q, F133 q → G q ∨ w.heap.size ≤ q := fun q hq => by rcases hfr135 q hq with h | h; exact hGr q h; exact .inr (by omega)
  have ltA126 := SlT.lt hA126
  refine Gn [] [4, 5] <| GI_end <| X_then <| V_ret ?_
  have hE : doS ts of now dk c u = (kilL u.xs ts u.rs c.n, ongE u.rs c.n, rwKil ts u c.n now) := by unfold doS; rw [if_neg hc24, if_neg hc34, if_neg hc52, if_neg hc83, if_neg hc115]
  rw [hE]
  exact Xr (.tuple #[.slice A126 ((kilL u.xs ts u.rs c.n).length) cap126, nt (ongE u.rs c.n)]) ⟨A126, cap126, rfl, hA126, (fun q h => by have h1 := ow126 q h; omega), ⟨F127, F130, F133, ho128, ho131, ho134, rel145, rel148, rel151, hdis136, hdis137, hdis138, (dA139), (dA140), (dA141)⟩, hK0⟩
 ·
  refine GI_alloc 80 (.agg (Trk.cells Trk.zero).toArray) (Trk.cells Trk.zero) (some 6) (by kernel_rfl) (by kernel_rfl) K8 (by kernel_rfl) (by kernel_rfl) ?_
  intro b152 w152 e152 hb152 k152 z152 K153
  have hsz154 := Keep.size k152
  replace hR := hR.keep k152 nk
  replace hV := hV.keep k152 nk
  replace hl := hl.keep k152 nk
  replace hrep := RepIn.keep hrep k152 nk
  replace hK0 := hK0.tn k152
  have hb152lt := hb152.lt
  refine Gn [3, 4, 5, 6, 7, 8, 9, 10, 13, 11, 14] [0, 3, 6, 11] <| Mr 2 (pt r) qhd <| Gn [7, 8, 9, 10, 13, 11, 14] [0, 3, 6, 12, 15] <| Mr 3 (nt of) qhd <| Hg (rtrack_spec H r g ts u.rs of _ hR) ?_
  rintro _ w157 ⟨rfl, hk158⟩
  have K159 := K153.tr (Keep.ofNone hk158)
  refine ⟨_, rfl, K159, ?_⟩
  have hzK159 := Keep.size K159
  have hsz160 := Keep.size hk158
  replace hd := hd.k0 (k152.tr hk158)
  replace hb1 := hb1.k0 (k152.tr hk158)
  replace hb152 := hb152.k0 hk158
  replace hR := hR.keep hk158 nk
  replace hV := hV.keep hk158 nk
  replace hl := hl.keep hk158 nk
  replace hrep := RepIn.keep hrep hk158 nk
  replace hK0 := hK0.tn hk158
  refine Gn [13, 11, 14] [0, 3, 6, 8, 18] <| GI_set (m := 18) (kd := true) 80 (.tmp 6) (.tmp 18) 0 (.agg (Trk.cells (trkA ts of)).toArray) (Trk.cells (trkA ts of)) none (by kernel_rfl) (by kernel_rfl) (by kernel_rfl) (by kernel_rfl) hb152 (by kernel_rfl) rfl (Trk.len _) (Nat.le_of_ble_eq_true (by kernel_rfl)) (Trk.one _) K159 (fun hh => absurd hh (by omega)) ?_
  intro w161 hb152_164 hk162 hz163 K165
  replace hb152_164 : Blk w161 b152 (Trk.cells (trkA ts of)) 80 := (Blk.eqL (Trk.over _ _) hb152_164)
  have hsz166 := Keep.size hk162
  replace hd := hd.k1 hk162
  replace hb1 := hb1.k1 hk162
  replace hR := hR.keep hk162 (fun q hq hs => by have hs : q = b152 := hs; have g0 := hHd q hq; have g1 := hHlt q hq; omega)
  replace hV := hV.keep hk162 (fun q hq hs => by have hs : q = b152 := hs; have g0 := hFd q hq; have g1 := hFlt q hq; omega)
  replace hl := hl.keep hk162 (fun q hq hs => by have hs : q = b152 := hs; have g0 := hGd q hq; have g1 := hGlt q hq; omega)
  replace hrep := RepIn.keep hrep hk162 (fun q hq hs => by have hs : q = b152 := hs; have g1 := hDlt q hq; omega)
  replace hK0 := Keep.fr hK0 hk162
  refine Gn [] [0, 3, 6] <| GI_end <| X_then <| V_seq <| Vr <| On 1 [0, 3, 6, 20] <| Lr 0 (nt c.k) hb1 <| Oe <| V_block <| Vn [0, 3, 6, 21, 22] <| Vi (c.k = 1) (fun hc167 => ?_) (fun hc167 => ?_)
  ·
   refine V_seq <| V_draws (acts [7]) none_ [[0, 1, 2, 3, 4, 5, 6, 7, 8, 9]] (by kernel_rfl) (by repeat first | exact (by first | exact sure_body (by rintro _ _ ⟨_, _, h, _⟩; exact ⟨_, h⟩) | exact sure_body (by rintro _ _ ⟨_, _, h, _⟩; exact ⟨_, h⟩)) | refine sure_then ?_ | refine sure_block ?_ | refine sure_join ?_) (by kernel_rfl) ?_
   intro w169 hk168 he170 L hL171
   have hsz172 := Keep.size hk168
   replace hd := hd.k0 hk168
   replace hb1 := hb1.k0 hk168
   replace hR := hR.keep hk168 nk
   replace hV := hV.keep hk168 nk
   replace hl := hl.keep hk168 nk
   replace hK0 := hK0.tn hk168
   have qhd := hd
   have qhb1 := hb1
   have K173 : Keep none_ w169 w169 := Keep.refl _ _
   obtain rfl := List.mem_singleton.1 hL171
   refine Gn [3, 4, 5, 6, 7, 8, 9] [3, 26] <| Mr 3 (nt of) qhd <| Gn [5, 6, 7, 8, 9] [27, 28] <| Mr 2 (nt c.n) qhb1 <| Gn [7, 8, 9] [30] <| GI_slit (E := 52) (zv := .agg #[nt 0, nt 0, nt 0]) (sz := 3) (by_ := 24) 27 1 #[(0, (Operand.tmp 30))] [.agg #[nt 5, nt of, nt c.n]] [nt 5, nt of, nt c.n] (some 31) (by kernel_rfl) (by kernel_rfl) K173 (by kernel_rfl) (by kernel_rfl) (by omega) rfl (by omega) (by intro v hv; simp only [List.mem_cons, List.not_mem_nil, or_false] at hv; rcases hv with rfl <;> rfl) (by kernel_rfl) rfl ?_
   intro b174 w174 e174 hb174 k174 z174 K175
   have hsz176 := Keep.size k174
   replace hR := hR.keep k174 nk
   replace hV := hV.keep k174 nk
   replace hl := hl.keep k174 nk
   replace hK0 := hK0.tn k174
   have hb174lt := hb174.lt
   refine Gn [] [4, 5] <| GI_end <| X_then <| V_ret <| X_ret_block <| X_ret_then ?_
   have hE : doS ts of now dk c u = ([Evt.mk 5 of c.n], 0, u) := by unfold doS; rw [if_pos hc167]
   rw [hE]
   exact Xr (.tuple #[sl_ b174 0 1 1, nt 0]) ⟨(some ⟨b174, 0, none⟩), 1, rfl, slt_blk (xs := [Evt.mk 5 of c.n]) hb174 Evt.len rfl, (fun q h => by have h3 := inA_some h; omega), ⟨H, F, G, hR, hV, hl, hHr, hFr, hGr, hHF, hHG, hFG, fun q h1 h2 => by have h3 := inA_some h1; have h4 := hHlt q h2; omega, fun q h1 h2 => by have h3 := inA_some h1; have h4 := hFlt q h2; omega, fun q h1 h2 => by have h3 := inA_some h1; have h4 := hGlt q h2; omega⟩, hK0⟩
  refine Vn [0, 3, 6, 21, 32] <| Vi (c.k = 2) (fun hc177 => ?_) (fun hc177 => ?_)
  ·
   refine Vr <| On 1 [3, 6, 34] <| La 0 (Trk.cells (trkA ts of)) 18 hb152_164 (take_all (Trk.len _)) (Trk.len _) <| La 0 (CA.cells c) 4 hb1 (take_all (CA.len _)) (CA.len _) <| Kg (spend_spec (trkA ts of) c d v l r of now G u _ hd hl hdo.2.2) ?_
   rintro _ w180 ⟨A182, cap182, rfl, hA182, ow182, ⟨F183, ho184, hfr185, dA186⟩, hk181⟩
   refine ⟨_, rfl, ?_⟩
   have hsz187 := Keep.size hk181
   replace hR := hR.keep hk181 (fun q hq hs => hHG q hq hs)
   replace hV := hV.keep hk181 (fun q hq hs => hFG q hq hs)
   replace hK0 := Keep.fresh hK0 hk181 (fun i hi hs => by rcases hGr i hs with h | h; exact .inr <| .inr <| h; (exfalso; omega))
   have own189 : ∀ q, F183 q → 0 ≤ q ∧ q ≠ d ∧ q ≠ b1 ∧ q ≠ b152 := fun q hq => by rcases hfr185 q hq with h | h; (have h1 := hGd q h; have h2 := hGlt q h; omega); omega
   have lt188 := Led.lt ho184
   have rel190 : ∀ q, F183 q → G q ∨ w.heap.size ≤ q := fun q hq => by rcases hfr185 q hq with h | h; exact hGr q h; exact .inr (by omega)
   have dis191 : ∀ q, F183 q → ¬ H q := fun q h1 h2 => by rcases hfr185 q h1 with h | h; exact (fun q h1 h2 => hHG q h2 h1) q h h2; (have h4 := hHlt q h2; omega)
   have dis192 : ∀ q, F183 q → ¬ F q := fun q h1 h2 => by rcases hfr185 q h1 with h | h; exact (fun q h1 h2 => hFG q h2 h1) q h h2; (have h4 := hFlt q h2; omega)
   have ltA182 := SlT.lt hA182
   have dis193 : ∀ q, inA A182 q → ¬ H q := fun q h1 h2 => by have h3 := ow182 q h1; have h4 := hHlt q h2; omega
   have dis194 : ∀ q, inA A182 q → ¬ F q := fun q h1 h2 => by have h3 := ow182 q h1; have h4 := hFlt q h2; omega
   refine Oen [4, 5] <| V_ret <| X_ret_block <| X_ret_then ?_
   have hE : doS ts of now dk c u = spS (trkA ts of) c u := by unfold doS; rw [if_neg hc167, if_pos hc177]
   rw [hE]
   exact Xr (.tuple #[.slice A182 (((spS (trkA ts of) c u).1).length) cap182, nt ((spS (trkA ts of) c u).2.1)]) ⟨A182, cap182, rfl, hA182, (fun q h => by have h1 := ow182 q h; omega), ⟨H, F, F183, (by rw [spS_rs]; exact hR), (by rw [spS_s]; exact hV), ho184, hHr, hFr, rel190, hHF, (fun q h1 h2 => dis191 q h2 h1), (fun q h1 h2 => dis192 q h2 h1), (dis193), (dis194), (dA186)⟩, hK0⟩
  refine Vn [0, 3, 6, 21, 40] <| Vi (c.k = 5) (fun hc195 => ?_) (fun hc195 => ?_)
  ·
   refine Vr <| On 2 [42, 43] <| Lr 3 (.slice c.A c.kids.length c.cap) hb1 ?_
   have hk5 : c.k = 5 := hc195
   refine Kg (batch_spec D c.A c.cap c.kids d r g ts v l of now dk H F G u _ (fun x hx => hIH hk5 x hx) (fun x hx => (hlen hk5).2 x hx) hrep.l hd hR hV hl hHF hHG hFG (fun q hq => ⟨by have h1 := hDlt q hq; omega, (hDo q hq).2⟩) hdo (hlen hk5).1) ?_
   rintro _ w198 ⟨A200, cap200, rfl, hA200, ow200, ⟨F201, F204, F207, ho202, ho205, ho208, hfr203, hfr206, hfr209, hdis210, hdis211, hdis212, dA213, dA214, dA215⟩, hk199⟩
   refine ⟨_, rfl, ?_⟩
   have hsz216 := Keep.size hk199
   replace hK0 := Keep.fresh hK0 hk199 (fun i hi hs => by rcases hs with hs | hs | hs; (exact .inl hs); (rcases hFr i hs with h | h; exact .inr <| .inl h; (exfalso; omega)); (rcases hGr i hs with h | h; exact .inr <| .inr <| h; (exfalso; omega)))
   have own218 : ∀ q, F201 q → 0 ≤ q ∧ q ≠ d ∧ q ≠ b1 ∧ q ≠ b152 := fun q hq => by rcases hfr203 q hq with h | h; (have h1 := hHd q h; have h2 := hHlt q h; omega); omega
   have lt217 := Rfr.lt ho202
   have rel219 : ∀ q, F201 q → H q ∨ w.heap.size ≤ q := fun q hq => by rcases hfr203 q hq with h | h; exact hHr q h; exact .inr (by omega)
   have own221 : ∀ q, F204 q → 0 ≤ q ∧ q ≠ d ∧ q ≠ b1 ∧ q ≠ b152 := fun q hq => by rcases hfr206 q hq with h | h; (have h1 := hFd q h; have h2 := hFlt q h; omega); omega
   have lt220 := VotT.lt ho205
   have rel222 : ∀ q, F204 q → F q ∨ w.heap.size ≤ q := fun q hq => by rcases hfr206 q hq with h | h; exact hFr q h; exact .inr (by omega)
   have own224 : ∀ q, F207 q → 0 ≤ q ∧ q ≠ d ∧ q ≠ b1 ∧ q ≠ b152 := fun q hq => by rcases hfr209 q hq with h | h; (have h1 := hGd q h; have h2 := hGlt q h; omega); omega
   have lt223 := Led.lt ho208
   have rel225 : ∀ q, F207 q → G q ∨ w.heap.size ≤ q := fun q hq => by rcases hfr209 q hq with h | h; exact hGr q h; exact .inr (by omega)
   have ltA200 := SlT.lt hA200
   refine Oen [4, 5] <| V_ret <| X_ret_block <| X_ret_then ?_
   have hE : doS ts of now dk c u = batS dk c.kids [] u := by unfold doS; rw [if_neg hc167, if_neg hc177, if_pos hc195]
   rw [hE]
   exact Xr (.tuple #[.slice A200 (((batS dk c.kids [] u).1).length) cap200, nt ((batS dk c.kids [] u).2.1)]) ⟨A200, cap200, rfl, hA200, (fun q h => by have h1 := ow200 q h; omega), ⟨F201, F204, F207, ho202, ho205, ho208, rel219, rel222, rel225, hdis210, hdis211, hdis212, (dA213), (dA214), (dA215)⟩, hK0⟩
  refine Vn [0, 3, 6, 48] <| Vi (c.k = 3) (fun hc226 => ?_) (fun hc226 => ?_)
  ·
   refine V_seq <| Vr <| On 1 [0, 3, 50] <| Lr 17 (nt ((trkA ts of).rank)) hb152_164 <| Oen [0, 3, 52] <| Vi ((trkA ts of).rank < 1) (fun hc227 => ?_) (fun hc227 => ?_)
   ·
    refine Vn [4, 5] <| Rt <| X_ret_block <| X_ret_then ?_
    have hE : doS ts of now dk c u = ([], 8, u) := by unfold doS; rw [if_neg hc167, if_neg hc177, if_neg hc195, if_pos hc226, if_pos hc227]
    rw [hE]
    exact Xr (.tuple #[.slice none 0 0, nt 8]) ⟨none, 0, rfl, SlT.nil _ _ _, (fun q h => (inA_none h).elim), ⟨H, F, G, hR, hV, hl, hHr, hFr, hGr, hHF, hHG, hFG, fun q h => (inA_none h).elim, fun q h => (inA_none h).elim, fun q h => (inA_none h).elim⟩, hK0⟩
   refine Vsk <| V_seq <| V_draws (acts [14]) none_ [[0, 1, 2, 3, 4, 5, 6, 7, 8, 9, 10, 11, 12, 13, 14, 15, 16, 17, 18]] (by kernel_rfl) (by repeat first | exact (by first | exact sure_body (by rintro _ _ ⟨_, _, h, _⟩; exact ⟨_, h⟩) | exact sure_body (by rintro _ _ ⟨_, _, h, _⟩; exact ⟨_, h⟩)) | refine sure_then ?_ | refine sure_block ?_ | refine sure_join ?_) (by kernel_rfl) ?_
   intro w229 hk228 he230 L hL231
   have hsz232 := Keep.size hk228
   replace hd := hd.k0 hk228
   replace hb1 := hb1.k0 hk228
   replace hR := hR.keep hk228 nk
   replace hV := hV.keep hk228 nk
   replace hl := hl.keep hk228 nk
   replace hK0 := hK0.tn hk228
   have qhd := hd
   have qhb1 := hb1
   have K233 : Keep none_ w229 w229 := Keep.refl _ _
   obtain rfl := List.mem_singleton.1 hL231
   refine Gn [3, 4, 5, 6, 7, 8, 9, 10, 11, 12, 13, 14, 15, 16, 17, 18] [0, 3, 55] <| Mr 2 (pt r) qhd <| Gn [7, 8, 9, 10, 11, 12, 13, 14, 15, 16, 17, 18] [0, 3, 56, 59] <| Mr 1 (pt v) qhd <| Gn [9, 10, 11, 12, 13, 14, 15, 16, 17, 18] [0, 56, 60, 61] <| Mr 2 (nt c.n) qhb1 <| Gn [13, 14, 15, 16, 17, 18] [56, 60, 62, 65] <| Mr 4 (nt now) qhd <| Jg (cancel_spec H r g ts u.rs F v u.s c.n now _ hR hV hHF) ?_
   rintro _ w236 ⟨A238, cap238, rfl, hA238, ow238, ⟨F239, F242, ho240, ho243, hfr241, hfr244, hdis245, dA246, dA247⟩, hk237⟩
   refine ⟨_, rfl, ?_⟩
   have hsz248 := Keep.size hk237
   replace hl := hl.keep hk237 (fun q hq hs => by rcases hs with hs | hs; exact (fun q h1 h2 => hHG q h2 h1) q hq (by rw [show q = g from hs]; exact hgH); exact (fun q h1 h2 => hFG q h2 h1) q hq hs)
   replace hK0 := Keep.fresh hK0 hk237 (fun i hi hs => by rcases hs with hs | hs; (exact .inl hs); (rcases hFr i hs with h | h; exact .inr <| .inl h; (exfalso; omega)))
   have own250 : ∀ q, F239 q → 0 ≤ q ∧ q ≠ d ∧ q ≠ b1 ∧ q ≠ b152 := fun q hq => by rcases hfr241 q hq with h | h; (have h1 := hHd q h; have h2 := hHlt q h; omega); omega
   have lt249 := Rfr.lt ho240
   have rel251 : ∀ q, F239 q → H q ∨ w.heap.size ≤ q := fun q hq => by rcases hfr241 q hq with h | h; exact hHr q h; exact .inr (by omega)
   have dis252 : ∀ q, F239 q → ¬ G q := fun q h1 h2 => by rcases hfr241 q h1 with h | h; exact hHG q h h2; (have h4 := hGlt q h2; omega)
   have own254 : ∀ q, F242 q → 0 ≤ q ∧ q ≠ d ∧ q ≠ b1 ∧ q ≠ b152 := fun q hq => by rcases hfr244 q hq with h | h; (have h1 := hFd q h; have h2 := hFlt q h; omega); omega
   have lt253 := VotT.lt ho243
   have rel255 : ∀ q, F242 q → F q ∨ w.heap.size ≤ q := fun q hq => by rcases hfr244 q hq with h | h; exact hFr q h; exact .inr (by omega)
   have dis256 : ∀ q, F242 q → ¬ G q := fun q h1 h2 => by rcases hfr244 q h1 with h | h; exact hFG q h h2; (have h4 := hGlt q h2; omega)
   have ltA238 := SlT.lt hA238
   have dis257 : ∀ q, inA A238 q → ¬ G q := fun q h1 h2 => by have h3 := ow238 q h1; have h4 := hGlt q h2; omega
   refine Gn [] [4, 5] <| GI_end <| X_then <| V_ret <| X_ret_block <| X_ret_then ?_
   have hE : doS ts of now dk c u = (canL u.rs c.n, ongE u.rs c.n, rwCan u c.n now) := by unfold doS; rw [if_neg hc167, if_neg hc177, if_neg hc195, if_pos hc226, if_neg hc227]
   rw [hE]
   exact Xr (.tuple #[.slice A238 ((canL u.rs c.n).length) cap238, nt (ongE u.rs c.n)]) ⟨A238, cap238, rfl, hA238, (fun q h => by have h1 := ow238 q h; omega), ⟨F239, F242, G, ho240, ho243, hl, rel251, rel255, hGr, hdis245, dis252, dis256, (dA246), (dA247), (dis257)⟩, hK0⟩
  refine V_skip <| X_block <| X_then <| V_seq <| Vr <| On 1 [0, 3, 70] <| Lr 17 (nt ((trkA ts of).rank)) hb152_164 <| Oen [0, 3, 72] <| Vi ((trkA ts of).rank < 2) (fun hc258 => ?_) (fun hc258 => ?_)
  ·
   refine Vn [4, 5] <| Rt ?_
   have hE : doS ts of now dk c u = ([], 8, u) := by unfold doS; rw [if_neg hc167, if_neg hc177, if_neg hc195, if_neg hc226, if_pos hc258]
   rw [hE]
   exact Xr (.tuple #[.slice none 0 0, nt 8]) ⟨none, 0, rfl, SlT.nil _ _ _, (fun q h => (inA_none h).elim), ⟨H, F, G, hR, hV, hl, hHr, hFr, hGr, hHF, hHG, hFG, fun q h => (inA_none h).elim, fun q h => (inA_none h).elim, fun q h => (inA_none h).elim⟩, hK0⟩
  refine Vsk <| V_seq <| V_draws (acts [18]) none_ [[0, 1, 2, 3, 4, 5, 6, 7, 8, 9, 10, 11, 12, 13, 14, 15, 16, 17, 18, 19, 20, 21, 22]] (by kernel_rfl) (by repeat first | exact (by first | exact sure_body (by rintro _ _ ⟨_, _, h, _⟩; exact ⟨_, h⟩) | exact sure_body (by rintro _ _ ⟨_, _, h, _⟩; exact ⟨_, h⟩)) | refine sure_then ?_ | refine sure_block ?_ | refine sure_join ?_) (by kernel_rfl) ?_
  intro w260 hk259 he261 L hL262
  have hsz263 := Keep.size hk259
  replace hd := hd.k0 hk259
  replace hb1 := hb1.k0 hk259
  replace hR := hR.keep hk259 nk
  replace hV := hV.keep hk259 nk
  replace hl := hl.keep hk259 nk
  replace hK0 := hK0.tn hk259
  have qhd := hd
  have qhb1 := hb1
  have K264 : Keep none_ w260 w260 := Keep.refl _ _
  obtain rfl := List.mem_singleton.1 hL262
  refine Gn [3, 4, 5, 6, 7, 8, 9, 10, 11, 12, 13, 14, 15, 16, 17, 18, 19, 20, 21, 22] [0, 3, 75] <| Mr 2 (pt r) qhd <| Gn [7, 8, 9, 10, 11, 12, 13, 14, 15, 16, 17, 18, 19, 20, 21, 22] [0, 3, 76, 79] <| Mr 0 (pt l) qhd <| Gn [11, 12, 13, 14, 15, 16, 17, 18, 19, 20, 21, 22] [0, 3, 76, 80, 83] <| Mr 1 (pt v) qhd <| Gn [13, 14, 15, 16, 17, 18, 19, 20, 21, 22] [0, 76, 80, 84, 85] <| Mr 2 (nt c.n) qhb1 <| Gn [17, 18, 19, 20, 21, 22] [76, 80, 84, 86, 89] <| Mr 4 (nt now) qhd <| Jg (kill_spec H r g ts u.rs F v u.s G l u.xs u.cs c.n now _ hR hV hl hHF hHG hFG) ?_
  rintro _ w267 ⟨A269, cap269, rfl, hA269, ow269, ⟨F270, F273, F276, ho271, ho274, ho277, hfr272, hfr275, hfr278, hdis279, hdis280, hdis281, dA282, dA283, dA284⟩, hk268⟩
  refine ⟨_, rfl, ?_⟩
  have hsz285 := Keep.size hk268
  replace hK0 := Keep.fresh hK0 hk268 (fun i hi hs => by rcases hs with hs | hs | hs; (exact .inl hs); (rcases hFr i hs with h | h; exact .inr <| .inl h; (exfalso; omega)); (rcases hGr i hs with h | h; exact .inr <| .inr <| h; (exfalso; omega)))
  have own287 : ∀ q, F270 q → 0 ≤ q ∧ q ≠ d ∧ q ≠ b1 ∧ q ≠ b152 := fun q hq => by rcases hfr272 q hq with h | h; (have h1 := hHd q h; have h2 := hHlt q h; omega); omega
  have lt286 := Rfr.lt ho271
  have rel288 : ∀ q, F270 q → H q ∨ w.heap.size ≤ q := fun q hq => by rcases hfr272 q hq with h | h; exact hHr q h; exact .inr (by omega)
  have own290 : ∀ q, F273 q → 0 ≤ q ∧ q ≠ d ∧ q ≠ b1 ∧ q ≠ b152 := fun q hq => by rcases hfr275 q hq with h | h; (have h1 := hFd q h; have h2 := hFlt q h; omega); omega
  have lt289 := VotT.lt ho274
  have rel291 : ∀ q, F273 q → F q ∨ w.heap.size ≤ q := fun q hq => by rcases hfr275 q hq with h | h; exact hFr q h; exact .inr (by omega)
  have own293 : ∀ q, F276 q → 0 ≤ q ∧ q ≠ d ∧ q ≠ b1 ∧ q ≠ b152 := fun q hq => by rcases hfr278 q hq with h | h; (have h1 := hGd q h; have h2 := hGlt q h; omega); omega
  have lt292 := Led.lt ho277
  have rel294 : ∀ q, F276 q → G q ∨ w.heap.size ≤ q := fun q hq => by rcases hfr278 q hq with h | h; exact hGr q h; exact .inr (by omega)
  have ltA269 := SlT.lt hA269
  refine Gn [] [4, 5] <| GI_end <| X_then <| V_ret ?_
  have hE : doS ts of now dk c u = (kilL u.xs ts u.rs c.n, ongE u.rs c.n, rwKil ts u c.n now) := by unfold doS; rw [if_neg hc167, if_neg hc177, if_neg hc195, if_neg hc226, if_neg hc258]
  rw [hE]
  exact Xr (.tuple #[.slice A269 ((kilL u.xs ts u.rs c.n).length) cap269, nt (ongE u.rs c.n)]) ⟨A269, cap269, rfl, hA269, (fun q h => by have h1 := ow269 q h; omega), ⟨F270, F273, F276, ho271, ho274, ho277, rel288, rel291, rel294, hdis279, hdis280, hdis281, (dA282), (dA283), (dA284)⟩, hK0⟩
theorem does_spec (d r g : Nat) (ts : List Trk) (v l : Nat) (of now : Int) : ∀ (f : Nat), f ≤ 3 → ∀ (c : CA), okCA f c = true → DoesAt d r g ts v l of now (doC ts of now f) c
  | 0, _, c, h => does_step d r g ts v l of now _ c (fun h5 => by have := stepC_kids h h5; simp at this) (fun h5 => by have := stepC_kids h h5; simp at this)
  | f + 1, hf, c, h => does_step d r g ts v l of now _ c (fun h5 x hx => does_spec d r g ts v l of now f (by omega) x ((stepC_kids h h5).2.2 x hx)) (fun h5 => ⟨(stepC_kids h h5).2.1, fun x hx u => doC_len f (by omega) x u ((stepC_kids h h5).2.2 x hx)⟩)
end Go.Al

namespace Go.Al
open Go Go.RowKit Go.Proofs
set_option maxHeartbeats 2000000 in
theorem do_spec (D : Nat → Prop) (c : CA) (r g : Nat) (ts : List Trk) (v l : Nat) (of now : Int) (H F G : Nat → Prop) (u : RW) (w : World) (hrep : RepIn D w c) (hR : Rfr H w r g ts u.rs) (hV : VotT F w v u.s) (hl : Led G w l u.xs u.cs) (hHF : ∀ q, H q → ¬ F q) (hHG : ∀ q, H q → ¬ G q) (hFG : ∀ q, F q → ¬ G q) (hDo : ∀ q, D q → q < w.heap.size ∧ ¬ H q ∧ ¬ F q ∧ ¬ G q) : Calls Tryz.prog 10 #[pt l, pt v, pt r, .agg c.cells.toArray, nt of, nt now] w fun e w' => ∃ A' cap', e = .returned (.tuple #[.slice A' ((doD ts of now c u).1).length cap', nt ((doD ts of now c u).2.1)]) ∧ SlT w' 3 Evt.cells A' cap' ((doD ts of now c u).1) ∧ (∀ q, inA A' q → w.heap.size ≤ q) ∧ (∃ H' F' G', Rfr H' w' r g ts (doD ts of now c u).2.2.rs ∧ VotT F' w' v (doD ts of now c u).2.2.s ∧ Led G' w' l (doD ts of now c u).2.2.xs (doD ts of now c u).2.2.cs ∧ (∀ q, H' q → H q ∨ w.heap.size ≤ q) ∧ (∀ q, F' q → F q ∨ w.heap.size ≤ q) ∧ (∀ q, G' q → G q ∨ w.heap.size ≤ q) ∧ (∀ q, H' q → ¬ F' q) ∧ (∀ q, H' q → ¬ G' q) ∧ (∀ q, F' q → ¬ G' q) ∧ (∀ q, inA A' q → ¬ H' q) ∧ (∀ q, inA A' q → ¬ F' q) ∧ (∀ q, inA A' q → ¬ G' q)) ∧ Keep (fun q => q = g ∨ F q ∨ G q) w w' := by
 have hHlt := Rfr.lt hR
 have hFlt := VotT.lt hV
 have hGlt := Led.lt hl
 have hgH : H g := Rfr.atg hR
 have hHd : ∀ q, H q → 0 ≤ q := fun q _ => Nat.zero_le _
 have hHl0 := hHlt
 have hFd : ∀ q, F q → 0 ≤ q := fun q _ => Nat.zero_le _
 have hFl0 := hFlt
 have hGd : ∀ q, G q → 0 ≤ q := fun q _ => Nat.zero_le _
 have hGl0 := hGlt
 have hgo : ∀ q, only g q → q = g := fun q hq => hq
 have hgl : ∀ q, only g q → q < w.heap.size := fun q hq => by rw [show q = g from hq]; exact hHlt _ hgH
 have hHr : ∀ q, H q → H q ∨ w.heap.size ≤ q := fun _ h => .inl h
 have hFr : ∀ q, F q → F q ∨ w.heap.size ≤ q := fun _ h => .inl h
 have hGr : ∀ q, G q → G q ∨ w.heap.size ≤ q := fun _ h => .inl h
 have hDlt : ∀ q, D q → q < w.heap.size := fun q hq => (hDo q hq).1
 have hK0 : Keep (fun q => q = g ∨ F q ∨ G q) w w := Keep.refl _ _
 have hzhK0 := Keep.size hK0
 refine eV ?_
 refine Vr <| OI_box 26 (.tmp 3) (.agg (CA.cells c).toArray) (CA.cells c) (some 9) (by kernel_rfl) (by kernel_rfl) rfl ?_
 intro b1 w1 e1 hb1 k1 z1
 have hsz2 := Keep.size k1
 replace hR := hR.keep k1 nk
 replace hV := hV.keep k1 nk
 replace hl := hl.keep k1 nk
 replace hrep := RepIn.keep hrep k1 nk
 replace hK0 := hK0.tn k1
 have hb1lt := hb1.lt
 refine On 3 [0, 1, 2, 4, 5, 9] <| Oe <| V_seq <| Vr <| On 2 [0, 1, 2, 4, 5, 9, 17, 18] <| Kk (rtrack_spec H r g ts u.rs of _ hR) fun w5 hk6 _ => ?_
 replace hR := hR.keep hk6 nk
 replace hV := hV.keep hk6 nk
 replace hl := hl.keep hk6 nk
 replace hrep := RepIn.keep hrep hk6 nk
 replace hK0 := hK0.tn hk6
 refine On 6 [0, 1, 2, 4, 5, 9, 20, 21] <| Alc_ 80 (.agg (Trk.cells Trk.zero).toArray) (Trk.cells Trk.zero) ?_
 intro b8 w8 e8 hb8 k8 z8
 have hsz9 := Keep.size k8
 replace hb1 := hb1.k0 (hk6.tr k8)
 replace hR := hR.keep k8 nk
 replace hV := hV.keep k8 nk
 replace hl := hl.keep k8 nk
 replace hrep := RepIn.keep hrep k8 nk
 replace hK0 := hK0.tn k8
 have hb8lt := hb8.lt
 refine Sg 0 (Trk.cells (trkA ts of)) hb8 (Trk.len _) (Trk.one _) ?_
 intro w10 hb8_13 hk11 hz12
 replace hb8_13 : Blk w10 b8 (Trk.cells (trkA ts of)) 80 := (Blk.eqL (Trk.over _ _) hb8_13)
 have hsz14 := Keep.size hk11
 replace hb1 := hb1.k1 hk11
 replace hR := hR.keep hk11 (fun q hq hs => by have hs : q = b8 := hs; have g0 := hHd q hq; have g1 := hHlt q hq; omega)
 replace hV := hV.keep hk11 (fun q hq hs => by have hs : q = b8 := hs; have g0 := hFd q hq; have g1 := hFlt q hq; omega)
 replace hl := hl.keep hk11 (fun q hq hs => by have hs : q = b8 := hs; have g0 := hGd q hq; have g1 := hGlt q hq; omega)
 replace hrep := RepIn.keep hrep hk11 (fun q hq hs => by have hs : q = b8 := hs; have g1 := hDlt q hq; omega)
 replace hK0 := Keep.fr hK0 hk11
 refine On 9 [0, 1, 2, 4, 5, 9, 15] <| Oer <| Os 3 [(0, pt l), (1, pt v), (2, pt r), (4, nt of), (5, nt now), (9, pt b1), (24, .bool (!((trkO ts of).isSome)))] ?_
 cases hg15 : (!((trkO ts of).isSome))
 ·
  refine OI_eq [(0, pt l), (1, pt v), (2, pt r), (4, nt of), (5, nt now), (9, pt b1), (24, .bool false)] (by first | rfl | rw [hg15]) <| On 11 [0, 1, 2, 4, 5, 9, 32] <| La 0 (CA.cells c) 4 hb1 (take_all (CA.len _)) (CA.len _) <| Kk (isC_spec D c _ hrep) fun w16 hk17 _ => ?_
  replace hb1 := hb1.k0 hk17
  replace hR := hR.keep hk17 nk
  replace hV := hV.keep hk17 nk
  replace hl := hl.keep hk17 nk
  replace hrep := RepIn.keep hrep hk17 nk
  replace hK0 := hK0.tn hk17
  refine Oen [0, 1, 2, 4, 5, 9, 36] <| Vb (!(okCA 3 c)) (fun hc19 => ?_) (fun hc19 => ?_)
  ·
   refine Vn [12, 13] <| Rt ?_
   have hE : doD ts of now c u = ([], 1, u) := if_pos (.inr (by simpa using hc19))
   rw [hE]
   exact Xr (.tuple #[.slice none 0 0, nt 1]) ⟨none, 0, rfl, SlT.nil _ _ _, (fun q h => (inA_none h).elim), ⟨H, F, G, hR, hV, hl, hHr, hFr, hGr, hHF, hHG, hFG, fun q h => (inA_none h).elim, fun q h => (inA_none h).elim, fun q h => (inA_none h).elim⟩, hK0⟩
  refine Vsk <| Vr <| On 6 [9, 42] <| Bx 86 [pt l, pt v, pt r, nt of, nt now] ?_
  intro b20 w20 e20 hb20 k20 z20
  have hsz21 := Keep.size k20
  replace hb1 := hb1.k0 k20
  replace hR := hR.keep k20 nk
  replace hV := hV.keep k20 nk
  replace hl := hl.keep k20 nk
  replace hrep := RepIn.keep hrep k20 nk
  replace hK0 := hK0.tn k20
  have hb20lt := hb20.lt
  refine La 0 (CA.cells c) 4 hb1 (take_all (CA.len _)) (CA.len _) ?_
  have hokc : okCA 3 c = true := by simpa using hc19
  have hDo2 : ∀ q, D q → q < w20.heap.size ∧ ¬ H q ∧ ¬ F q ∧ ¬ G q := fun q hq => ⟨by have h1 := hDlt q hq; omega, (hDo q hq).2⟩
  have hdo2 : ¬ H b20 ∧ ¬ F b20 ∧ ¬ G b20 := ⟨fun h => by have h1 := hHl0 _ h; omega, fun h => by have h1 := hFl0 _ h; omega, fun h => by have h1 := hGl0 _ h; omega⟩
  refine Kg (does_spec b20 r g ts v l of now 3 (by omega) c hokc D H F G u _ hrep hb20 hR hV hl hHF hHG hFG hDo2 hdo2) ?_
  rintro _ w24 ⟨A26, cap26, rfl, hA26, ow26, ⟨F27, F30, F33, ho28, ho31, ho34, hfr29, hfr32, hfr35, hdis36, hdis37, hdis38, dA39, dA40, dA41⟩, hk25⟩
  refine ⟨_, rfl, ?_⟩
  have hsz42 := Keep.size hk25
  replace hK0 := Keep.fresh hK0 hk25 (fun i hi hs => by rcases hs with hs | hs | hs; (exact .inl hs); (rcases hFr i hs with h | h; exact .inr <| .inl h; (exfalso; omega)); (rcases hGr i hs with h | h; exact .inr <| .inr <| h; (exfalso; omega)))
  have own44 : ∀ q, F27 q → 0 ≤ q ∧ q ≠ b1 ∧ q ≠ b8 ∧ q ≠ b20 := fun q hq => by rcases hfr29 q hq with h | h; (have h1 := hHd q h; have h2 := hHlt q h; omega); omega
  have lt43 := Rfr.lt ho28
  have rel45 : ∀ q, F27 q → H q ∨ w.heap.size ≤ q := fun q hq => by rcases hfr29 q hq with h | h; exact hHr q h; exact .inr (by omega)
  have own47 : ∀ q, F30 q → 0 ≤ q ∧ q ≠ b1 ∧ q ≠ b8 ∧ q ≠ b20 := fun q hq => by rcases hfr32 q hq with h | h; (have h1 := hFd q h; have h2 := hFlt q h; omega); omega
  have lt46 := VotT.lt ho31
  have rel48 : ∀ q, F30 q → F q ∨ w.heap.size ≤ q := fun q hq => by rcases hfr32 q hq with h | h; exact hFr q h; exact .inr (by omega)
  have own50 : ∀ q, F33 q → 0 ≤ q ∧ q ≠ b1 ∧ q ≠ b8 ∧ q ≠ b20 := fun q hq => by rcases hfr35 q hq with h | h; (have h1 := hGd q h; have h2 := hGlt q h; omega); omega
  have lt49 := Led.lt ho34
  have rel51 : ∀ q, F33 q → G q ∨ w.heap.size ≤ q := fun q hq => by rcases hfr35 q hq with h | h; exact hGr q h; exact .inr (by omega)
  have ltA26 := SlT.lt hA26
  refine Oen [12, 13] <| V_ret ?_
  have hE : doD ts of now c u = doC ts of now 3 c u := if_neg (by rintro (h | h); (rw [h] at hg15; simp at hg15); (rw [h] at hokc; cases hokc))
  rw [hE]
  exact Xr (.tuple #[.slice A26 (((doC ts of now 3 c u).1).length) cap26, nt ((doC ts of now 3 c u).2.1)]) ⟨A26, cap26, rfl, hA26, (fun q h => by have h1 := ow26 q h; omega), ⟨F27, F30, F33, ho28, ho31, ho34, rel45, rel48, rel51, hdis36, hdis37, hdis38, (dA39), (dA40), (dA41)⟩, hK0⟩
 refine OI_eq [(0, pt l), (1, pt v), (2, pt r), (4, nt of), (5, nt now), (9, pt b1), (24, .bool true)] (by first | rfl | rw [hg15]) <| Oen [0, 1, 2, 4, 5, 9, 36] <| Vo <| Vn [12, 13] <| Rt ?_
 have hE : doD ts of now c u = ([], 1, u) := if_pos (.inl (by simpa using hg15))
 rw [hE]
 exact Xr (.tuple #[.slice none 0 0, nt 1]) ⟨none, 0, rfl, SlT.nil _ _ _, (fun q h => (inA_none h).elim), ⟨H, F, G, hR, hV, hl, hHr, hFr, hGr, hHF, hHG, hFG, fun q h => (inA_none h).elim, fun q h => (inA_none h).elim, fun q h => (inA_none h).elim⟩, hK0⟩
end Go.Al

namespace Go.Al
open Go Go.RowKit Go.Proofs
def actT0 : Trk := ⟨1, 20, 2, 10, 3, 1, ⟨1, 500000000, 500000000, 1, 0⟩, ⟨1, 0, 0, 1, 0⟩, 5, 0⟩
def actT1 : Trk := { actT0 with rank := 1, cap := 50 }
def actT2 : Trk := { actT0 with rank := 2, cap := 5000 }
def actTs : List Trk := [actT0, actT1, actT2]
theorem actTs_ok : okTs actTs := ⟨by decide, by decide, by decide⟩
def frA (fs : List Int) (i : Nat) : Int := match fs[i]? with | some x => IntKind.i64.wrap (100 + bAnd x 1023) | none => 100
def frL (fs : List Int) (i : Nat) : List Int := (List.range i).map (frA fs)
theorem frL_len (fs : List Int) (i : Nat) : (frL fs i).length = i := by simp [frL]
theorem frL_step (fs : List Int) (i : Nat) : frL fs (i + 1) = frL fs i ++ [frA fs i] := by simp [frL, List.range_succ]
theorem frA_some {fs : List Int} {i : Nat} {x : Int} (h : fs[i]? = some x) : frA fs i = IntKind.i64.wrap (100 + bAnd x 1023) := by unfold frA; rw [h]
theorem frA_none {fs : List Int} {i : Nat} (h : fs.length ≤ i) : frA fs i = 100 := by unfold frA; rw [List.getElem?_eq_none h]
theorem frA_bnd (fs : List Int) (i : Nat) : 100 ≤ frA fs i ∧ frA fs i ≤ 1123 := by
  unfold frA
  split
  · rename_i x _
    have h := bAnd_le x 1023 (by decide)
    have h2 : bAnd x ((1023 : Nat) : Int) = bAnd x 1023 := rfl
    rw [h2] at h
    rw [wrap64_id (by omega) (by omega)]; omega
  · omega
def frX (fs : List Int) : List Acc := newX (frL fs 10) 10
theorem frX_eq (fs : List Int) : frX fs = [⟨frA fs 0, 0⟩, ⟨frA fs 1, 0⟩, ⟨frA fs 2, 0⟩, ⟨frA fs 3, 0⟩, ⟨frA fs 4, 0⟩, ⟨frA fs 5, 0⟩, ⟨frA fs 6, 0⟩, ⟨frA fs 7, 0⟩, ⟨frA fs 8, 0⟩, ⟨frA fs 9, 0⟩] := rfl
theorem frL_ok (fs : List Int) : okP (frL fs 10) := by
  refine ⟨by rw [frL_len]; omega, fun x hx => ?_, ?_⟩
  · obtain ⟨i, _, rfl⟩ := List.mem_map.1 hx
    have := frA_bnd fs i; omega
  · show tot (frX fs) ≤ _
    rw [frX_eq]
    have h := frA_bnd fs
    have h0 := h 0; have h1 := h 1; have h2 := h 2; have h3 := h 3; have h4 := h 4; have h5 := h 5; have h6 := h 6; have h7 := h 7; have h8 := h 8; have h9 := h 9
    simp only [tot]; omega
def acQ (fs : List Int) : RW := ⟨frX fs, [], VS.zero, []⟩
theorem new_okA (A : Option Addr) (cap : Nat) (fs : List Int) (w : World) (hA : ArgT w 1 intc A cap fs) (hn : fs.length ≤ 100000) (hok : okP fs) : Calls Tryz.prog 17 #[.slice A fs.length cap] w fun e w' => ∃ l F, e = .returned (.tuple #[pt l, nt 0]) ∧ Led F w' l (newX fs 10) [] ∧ Keep none_ w w' ∧ (∀ q, F q → w.heap.size ≤ q) :=
  (new_spec6 A cap fs w hA hn).mono (by
    rintro e w' (⟨_, h⟩ | ⟨h, _⟩)
    · exact h
    · exact absurd hok h)
theorem SlT.ofE {α : Type} {w : World} {sz cap : Nat} {f : α → List Value} {A : Option Addr} {xs ys : List α} (h : SlT w sz f A cap xs) (e : xs = ys) : SlT w sz f A cap ys := e ▸ h
theorem flat_spec (a : Int) (w : World) : Calls Tryz.prog 46 #[nt a] w fun e w' => e = .returned (.agg (Crv.cells ⟨1, a, a, 1, 0⟩).toArray) ∧ Keep none_ w w' := by
 have hK0 : Keep none_ w w := Keep.refl _ _
 have hzhK0 := Keep.size hK0
 refine enterM Tryz.func46 rfl [nt a] 6 rfl rfl rfl ?_
 refine Vp [(0, nt a)] <| Vr <| Alc_ 78 (.agg #[nt 0, nt 0, nt 0, nt 0, nt 0]) [nt 0, nt 0, nt 0, nt 0, nt 0] ?_
 intro b1 w1 e1 hb1 k1 z1
 have hsz2 := Keep.size k1
 replace hK0 := hK0.tn k1
 have hb1lt := hb1.lt
 refine Oer <| Os 3 [(2, pt b1), (5, .agg (Crv.cells (Crv.mk 1 a a 1 0)).toArray)] <| Sg 0 (Crv.cells (Crv.mk 1 a a 1 0)) hb1 (Crv.len _) (Crv.one _) ?_
 intro w3 hb1_6 hk4 hz5
 replace hb1_6 : Blk w3 b1 (Crv.cells (Crv.mk 1 a a 1 0)) 78 := (by rwa [over_whole (by rw [Crv.len]; rfl)] at hb1_6)
 have hsz7 := Keep.size hk4
 replace hK0 := Keep.fr hK0 hk4
 refine Oe <| V_ret ?_
 exact leave0 (.agg (Crv.cells ⟨1, a, a, 1, 0⟩).toArray) (.inl rfl) (res_agg1 (m := 5) rfl rfl (by kernel_rfl) hb1_6 rfl) ⟨rfl, hK0⟩
set_option maxHeartbeats 2000000 in
theorem tracks_spec (w : World) : Calls Tryz.prog 20 #[] w fun e w' => ∃ A cap, e = .returned (.slice A 3 cap) ∧ SlT w' 18 Trk.cells A cap actTs ∧ (∀ q, inA A q → w.heap.size ≤ q) ∧ Keep none_ w w' := by
 have hK0 : Keep none_ w w := Keep.refl _ _
 have hzhK0 := Keep.size hK0
 refine eV ?_
 refine Vr <| On 1 [] <| Oer <| Kk (flat_spec 500000000 _) fun w1 hk2 _ => ?_
 replace hK0 := hK0.tn hk2
 refine Kk (flat_spec 0 _) fun w4 hk5 _ => ?_
 replace hK0 := hK0.tn hk5
 refine On 3 [6] <| Alc_ 80 (.agg (Trk.cells Trk.zero).toArray) (Trk.cells Trk.zero) ?_
 intro b7 w7 e7 hb7 k7 z7
 have hsz8 := Keep.size k7
 replace hK0 := hK0.tn k7
 have hb7lt := hb7.lt
 refine Sg 0 (Trk.cells actT0) hb7 (Trk.len _) (Trk.one _) ?_
 intro w9 hb7_12 hk10 hz11
 replace hb7_12 : Blk w9 b7 (Trk.cells actT0) 80 := (Blk.eqL (Trk.over _ _) hb7_12)
 have hsz13 := Keep.size hk10
 replace hK0 := Keep.fr hK0 hk10
 refine Oe <| V_seq <| Vd (acts [2, 3, 4, 5]) none_ [[2, 3, 0, 4, 1, 5], [3, 2, 0, 4, 1, 5]] ?_
 intro w15 hk14 he16 L hL17
 have hsz18 := Keep.size hk14
 replace hb7_12 := hb7_12.k0 hk14
 replace hK0 := hK0.tn hk14
 have qhb7_12 := hb7_12
 have K19 : Keep none_ w15 w15 := Keep.refl _ _
 simp only [List.mem_cons, List.not_mem_nil, or_false] at hL17
 rcases hL17 with rfl | rfl
 ·
  refine GI_alloc 80 (.agg (Trk.cells Trk.zero).toArray) (Trk.cells Trk.zero) (some 2) (by kernel_rfl) (by kernel_rfl) K19 (by kernel_rfl) (by kernel_rfl) ?_
  intro b20 w20 e20 hb20 k20 z20 K21
  have hsz22 := Keep.size k20
  replace hK0 := hK0.tn k20
  have hb20lt := hb20.lt
  refine GI_alloc 80 (.agg (Trk.cells Trk.zero).toArray) (Trk.cells Trk.zero) (some 3) (by kernel_rfl) (by kernel_rfl) K21 (by kernel_rfl) (by kernel_rfl) ?_
  intro b23 w23 e23 hb23 k23 z23 K24
  have hsz25 := Keep.size k23
  replace hb7_12 := hb7_12.k0 (k20.tr k23)
  replace hb20 := hb20.k0 k23
  replace hK0 := hK0.tn k23
  have hb23lt := hb23.lt
  refine Ma 0 (Trk.cells actT0) 18 qhb7_12 id (take_all (Trk.len _)) (Trk.len _) <| GI_set (m := 18) (kd := true) 80 (.tmp 2) (.tmp 7) 0 (.agg (Trk.cells actT0).toArray) (Trk.cells actT0) none (by kernel_rfl) (by kernel_rfl) (by kernel_rfl) (by kernel_rfl) hb20 (by kernel_rfl) rfl (Trk.len _) (Nat.le_of_ble_eq_true (by kernel_rfl)) (Trk.one _) K24 (fun hh => absurd hh (by omega)) ?_
  intro w26 hb20_29 hk27 hz28 K30
  replace hb20_29 : Blk w26 b20 (Trk.cells actT0) 80 := (Blk.eqL (Trk.over _ _) hb20_29)
  have hsz31 := Keep.size hk27
  replace hb7_12 := hb7_12.k1 hk27
  replace hb23 := hb23.k1 hk27
  replace hK0 := Keep.fr hK0 hk27
  refine Ma 0 (Trk.cells actT0) 18 qhb7_12 id (take_all (Trk.len _)) (Trk.len _) <| GI_final 5 (by kernel_rfl) (by kernel_rfl) <| Sg 0 (Trk.cells actT0) hb23 (Trk.len _) (Trk.one _) ?_
  intro w32 hb23_35 hk33 hz34
  replace hb23_35 : Blk w32 b23 (Trk.cells actT0) 80 := (Blk.eqL (Trk.over _ _) hb23_35)
  have hsz36 := Keep.size hk33
  replace hb7_12 := hb7_12.k1 hk33
  replace hb20_29 := hb20_29.k1 hk33
  replace hK0 := Keep.fr hK0 hk33
  refine Oer <| On 1 [1, 2, 3, 9] <| St_ 17 (nt 1) hb20_29 ?_
  intro w37 hb20_40 hk38 hz39
  replace hb20_40 : Blk w37 b20 (Trk.cells { actT0 with rank := 1 }) 80 := (Blk.eqL (by kernel_rfl) hb20_40)
  have hsz41 := Keep.size hk38
  replace hb7_12 := hb7_12.k1 hk38
  replace hb23_35 := hb23_35.k1 hk38
  replace hK0 := Keep.fr hK0 hk38
  refine On 3 [1, 2, 3, 10] <| St_ 16 (nt 50) hb20_40 ?_
  intro w42 hb20_45 hk43 hz44
  replace hb20_45 : Blk w42 b20 (Trk.cells { actT0 with rank := 1, cap := 50 }) 80 := (Blk.eqL (by kernel_rfl) hb20_45)
  have hsz46 := Keep.size hk43
  replace hb7_12 := hb7_12.k1 hk43
  replace hb23_35 := hb23_35.k1 hk43
  replace hK0 := Keep.fr hK0 hk43
  refine Oer <| On 1 [1, 2, 3, 11] <| St_ 17 (nt 2) hb23_35 ?_
  intro w47 hb23_50 hk48 hz49
  replace hb23_50 : Blk w47 b23 (Trk.cells { actT0 with rank := 2 }) 80 := (Blk.eqL (by kernel_rfl) hb23_50)
  have hsz51 := Keep.size hk48
  replace hb7_12 := hb7_12.k1 hk48
  replace hb20_45 := hb20_45.k1 hk48
  replace hK0 := Keep.fr hK0 hk48
  refine On 3 [1, 2, 3, 12] <| St_ 16 (nt 5000) hb23_50 ?_
  intro w52 hb23_55 hk53 hz54
  replace hb23_55 : Blk w52 b23 (Trk.cells { actT0 with rank := 2, cap := 5000 }) 80 := (Blk.eqL (by kernel_rfl) hb23_55)
  have hsz56 := Keep.size hk53
  replace hb7_12 := hb7_12.k1 hk53
  replace hb20_45 := hb20_45.k1 hk53
  replace hK0 := Keep.fr hK0 hk53
  refine Oer <| La 0 (Trk.cells actT0) 18 hb7_12 (take_all (Trk.len _)) (Trk.len _) <| La 0 (Trk.cells { actT0 with rank := 1, cap := 50 }) 18 hb20_45 (take_all (Trk.len _)) (Trk.len _) <| La 0 (Trk.cells { actT0 with rank := 2, cap := 5000 }) 18 hb23_55 (take_all (Trk.len _)) (Trk.len _) <| OI_slit (E := 80) (zv := .agg #[nt 0, nt 0, nt 0, nt 0, nt 0, nt 0, nt 0, nt 0, nt 0, nt 0, nt 0, nt 0, nt 0, nt 0, nt 0, nt 0, nt 0, nt 0]) (sz := 18) (by_ := 144) 67 3 #[(0, (Operand.tmp 13)), (1, (Operand.tmp 14)), (2, (Operand.tmp 15))] [.agg (Trk.cells actT0).toArray, .agg (Trk.cells { actT0 with rank := 1, cap := 50 }).toArray, .agg (Trk.cells { actT0 with rank := 2, cap := 5000 }).toArray] ([actT0, { actT0 with rank := 1, cap := 50 }, { actT0 with rank := 2, cap := 5000 }].flatMap Trk.cells) (some 16) (by kernel_rfl) (by kernel_rfl) (by kernel_rfl) (by omega) rfl (by omega) (by intro v hv; simp only [List.mem_cons, List.not_mem_nil, or_false] at hv; rcases hv with rfl | rfl | rfl <;> rfl) (by kernel_rfl) rfl ?_
  intro b57 w57 e57 hb57 k57 z57
  have hsz58 := Keep.size k57
  replace hK0 := hK0.tn k57
  have hb57lt := hb57.lt
  refine Ose [(0, sl_ b57 0 3 3)] <| V_ret ?_
  exact X_return _ rfl ⟨_, _, rfl, slt_blk (xs := actTs) hb57 Trk.len rfl, (fun q h => by have h3 := inA_some h; omega), hK0⟩
 ·
  refine GI_alloc 80 (.agg (Trk.cells Trk.zero).toArray) (Trk.cells Trk.zero) (some 3) (by kernel_rfl) (by kernel_rfl) K19 (by kernel_rfl) (by kernel_rfl) ?_
  intro b59 w59 e59 hb59 k59 z59 K60
  have hsz61 := Keep.size k59
  replace hK0 := hK0.tn k59
  have hb59lt := hb59.lt
  refine GI_alloc 80 (.agg (Trk.cells Trk.zero).toArray) (Trk.cells Trk.zero) (some 2) (by kernel_rfl) (by kernel_rfl) K60 (by kernel_rfl) (by kernel_rfl) ?_
  intro b62 w62 e62 hb62 k62 z62 K63
  have hsz64 := Keep.size k62
  replace hb7_12 := hb7_12.k0 (k59.tr k62)
  replace hb59 := hb59.k0 k62
  replace hK0 := hK0.tn k62
  have hb62lt := hb62.lt
  refine Ma 0 (Trk.cells actT0) 18 qhb7_12 id (take_all (Trk.len _)) (Trk.len _) <| GI_set (m := 18) (kd := true) 80 (.tmp 2) (.tmp 7) 0 (.agg (Trk.cells actT0).toArray) (Trk.cells actT0) none (by kernel_rfl) (by kernel_rfl) (by kernel_rfl) (by kernel_rfl) hb62 (by kernel_rfl) rfl (Trk.len _) (Nat.le_of_ble_eq_true (by kernel_rfl)) (Trk.one _) K63 (fun hh => absurd hh (by omega)) ?_
  intro w65 hb62_68 hk66 hz67 K69
  replace hb62_68 : Blk w65 b62 (Trk.cells actT0) 80 := (Blk.eqL (Trk.over _ _) hb62_68)
  have hsz70 := Keep.size hk66
  replace hb7_12 := hb7_12.k1 hk66
  replace hb59 := hb59.k1 hk66
  replace hK0 := Keep.fr hK0 hk66
  refine Ma 0 (Trk.cells actT0) 18 qhb7_12 id (take_all (Trk.len _)) (Trk.len _) <| GI_final 5 (by kernel_rfl) (by kernel_rfl) <| Sg 0 (Trk.cells actT0) hb59 (Trk.len _) (Trk.one _) ?_
  intro w71 hb59_74 hk72 hz73
  replace hb59_74 : Blk w71 b59 (Trk.cells actT0) 80 := (Blk.eqL (Trk.over _ _) hb59_74)
  have hsz75 := Keep.size hk72
  replace hb7_12 := hb7_12.k1 hk72
  replace hb62_68 := hb62_68.k1 hk72
  replace hK0 := Keep.fr hK0 hk72
  refine Oer <| On 1 [1, 2, 3, 9] <| St_ 17 (nt 1) hb62_68 ?_
  intro w76 hb62_79 hk77 hz78
  replace hb62_79 : Blk w76 b62 (Trk.cells { actT0 with rank := 1 }) 80 := (Blk.eqL (by kernel_rfl) hb62_79)
  have hsz80 := Keep.size hk77
  replace hb7_12 := hb7_12.k1 hk77
  replace hb59_74 := hb59_74.k1 hk77
  replace hK0 := Keep.fr hK0 hk77
  refine On 3 [1, 2, 3, 10] <| St_ 16 (nt 50) hb62_79 ?_
  intro w81 hb62_84 hk82 hz83
  replace hb62_84 : Blk w81 b62 (Trk.cells { actT0 with rank := 1, cap := 50 }) 80 := (Blk.eqL (by kernel_rfl) hb62_84)
  have hsz85 := Keep.size hk82
  replace hb7_12 := hb7_12.k1 hk82
  replace hb59_74 := hb59_74.k1 hk82
  replace hK0 := Keep.fr hK0 hk82
  refine Oer <| On 1 [1, 2, 3, 11] <| St_ 17 (nt 2) hb59_74 ?_
  intro w86 hb59_89 hk87 hz88
  replace hb59_89 : Blk w86 b59 (Trk.cells { actT0 with rank := 2 }) 80 := (Blk.eqL (by kernel_rfl) hb59_89)
  have hsz90 := Keep.size hk87
  replace hb7_12 := hb7_12.k1 hk87
  replace hb62_84 := hb62_84.k1 hk87
  replace hK0 := Keep.fr hK0 hk87
  refine On 3 [1, 2, 3, 12] <| St_ 16 (nt 5000) hb59_89 ?_
  intro w91 hb59_94 hk92 hz93
  replace hb59_94 : Blk w91 b59 (Trk.cells { actT0 with rank := 2, cap := 5000 }) 80 := (Blk.eqL (by kernel_rfl) hb59_94)
  have hsz95 := Keep.size hk92
  replace hb7_12 := hb7_12.k1 hk92
  replace hb62_84 := hb62_84.k1 hk92
  replace hK0 := Keep.fr hK0 hk92
  refine Oer <| La 0 (Trk.cells actT0) 18 hb7_12 (take_all (Trk.len _)) (Trk.len _) <| La 0 (Trk.cells { actT0 with rank := 1, cap := 50 }) 18 hb62_84 (take_all (Trk.len _)) (Trk.len _) <| La 0 (Trk.cells { actT0 with rank := 2, cap := 5000 }) 18 hb59_94 (take_all (Trk.len _)) (Trk.len _) <| OI_slit (E := 80) (zv := .agg #[nt 0, nt 0, nt 0, nt 0, nt 0, nt 0, nt 0, nt 0, nt 0, nt 0, nt 0, nt 0, nt 0, nt 0, nt 0, nt 0, nt 0, nt 0]) (sz := 18) (by_ := 144) 67 3 #[(0, (Operand.tmp 13)), (1, (Operand.tmp 14)), (2, (Operand.tmp 15))] [.agg (Trk.cells actT0).toArray, .agg (Trk.cells { actT0 with rank := 1, cap := 50 }).toArray, .agg (Trk.cells { actT0 with rank := 2, cap := 5000 }).toArray] ([actT0, { actT0 with rank := 1, cap := 50 }, { actT0 with rank := 2, cap := 5000 }].flatMap Trk.cells) (some 16) (by kernel_rfl) (by kernel_rfl) (by kernel_rfl) (by omega) rfl (by omega) (by intro v hv; simp only [List.mem_cons, List.not_mem_nil, or_false] at hv; rcases hv with rfl | rfl | rfl <;> rfl) (by kernel_rfl) rfl ?_
  intro b96 w96 e96 hb96 k96 z96
  have hsz97 := Keep.size k96
  replace hK0 := hK0.tn k96
  have hb96lt := hb96.lt
  refine Ose [(0, sl_ b96 0 3 3)] <| V_ret ?_
  exact X_return _ rfl ⟨_, _, rfl, slt_blk (xs := actTs) hb96 Trk.len rfl, (fun q h => by have h3 := inA_some h; omega), hK0⟩
end Go.Al
