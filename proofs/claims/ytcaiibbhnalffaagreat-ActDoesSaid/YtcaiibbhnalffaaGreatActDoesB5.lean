/-
  Put together out of 8 texts: The document's answer: what a call is. The document's ledger: what is told of accounts. The document's ledger: locks. The document's ledger: may. The document's ledger: Transfer. The document's ledger: Reserve, Burn, Mint. The document's ledger: Release, Slash. The docum
-/
import Derived.Test.YtcaiibbhnalffaaGreatActDoesB4
open Go.IntKind (i64)
set_option maxRecDepth 10000
namespace Go.Al
open Go Go.RowKit Go.Proofs
theorem r7In_spec (n lo hi : Int) (w : World) : Calls Tryz.prog 95 #[nt n, nt lo, nt hi] w fun e w' => e = .returned (.bool (decide (lo ≤ n ∧ n ≤ hi))) ∧ w' = w := by
 refine eV ?_
 refine Vr <| On 1 [0, 1, 2] <| Oer <| On 4 [0, 2, 10] ?_
 by_cases hg1 : n ≥ lo
 ·
  exact Dt 10 hg1 <| Oen [6] <| Rr (.bool (decide (n ≤ hi))) ⟨by congr 2; simp only [Bool.decide_and]; by_cases h1 : lo ≤ n <;> simp [h1] <;> omega, rfl⟩
 exact Df 10 hg1 <| Oen [6] <| Rr (.bool false) ⟨by congr 2; simp only [Bool.decide_and]; by_cases h1 : lo ≤ n <;> simp [h1] <;> omega, rfl⟩
theorem stC_iff {b : Bool} {ok : CA → Bool} {k to n : Int} {A : Option Addr} {cap : Nat} {kl : List CA} : stepC b ok (.mk k to n A cap kl) = true ↔
    (k = 1 ∧ kl.length = 0 ∧ to = 0 ∧ (0 ≤ n ∧ n ≤ 1073741824)) ∨ (k = 2 ∧ kl.length = 0 ∧ (0 ≤ to ∧ to ≤ 9) ∧ (0 ≤ n ∧ n ≤ 1073741824)) ∨ ((k = 3 ∨ k = 4) ∧ kl.length = 0 ∧ to = 0 ∧ (0 ≤ n ∧ n ≤ 11)) ∨ (k = 5 ∧ b = true ∧ to = 0 ∧ n = 0 ∧ (1 ≤ kl.length ∧ kl.length ≤ 4) ∧ kl.all ok = true) := by
  rw [show stepC b ok (.mk k to n A cap kl) = ((decide (k = 1) && decide (kl.length = 0) && decide (to = 0) && decide (0 ≤ n ∧ n ≤ 1073741824)) || (decide (k = 2) && decide (kl.length = 0) && decide (0 ≤ to ∧ to ≤ 9) && decide (0 ≤ n ∧ n ≤ 1073741824)) || (decide (k = 3 ∨ k = 4) && decide (kl.length = 0) && decide (to = 0) && decide (0 ≤ n ∧ n ≤ 11)) || (decide (k = 5) && b && decide (to = 0) && decide (n = 0) && decide (1 ≤ kl.length ∧ kl.length ≤ 4) && kl.all ok)) from rfl]
  simp only [Bool.or_eq_true, Bool.and_eq_true, decide_eq_true_eq, and_assoc, or_assoc]
set_option maxHeartbeats 1000000 in
theorem call7_step (D : Nat → Prop) (b : Bool) (ok : CA → Bool) (dp : Int) (kk to m0 : Int) (A : Option Addr) (cap : Nat) (kl : List CA) (w : World) (hb : b = decide (dp < 3)) (hdp : 0 ≤ dp ∧ dp ≤ 3) (hIH : dp < 3 → ∀ x ∈ kl, ∀ (D : Nat → Prop) w, RepIn D w x → Calls Tryz.prog 65 #[.agg x.cells.toArray, nt (dp + 1)] w fun e w' => e = .returned (.bool (ok x)) ∧ Keep none_ w w') (hmx : kl.length ≤ 9223372036854775807) (hrep : RepL D w A cap kl) : Calls Tryz.prog 65 #[.agg #[nt kk, nt to, nt m0, .slice A kl.length cap], nt dp] w fun e w' => e = .returned (.bool (stepC b ok (CA.mk kk to m0 A cap kl))) ∧ Keep none_ w w' := by
 have hA0 := hrep.1
 have hA := hA0
 have hK0 := Keep.refl none_ w
 refine eV ?_
 refine Vr <| Bx 26 [nt kk, nt to, nt m0, .slice A kl.length cap] ?_
 intro b1 w1 e1 hb1 k1 z1
 have hsz2 := Keep.size k1
 replace hA := ArgT.keep0 hA k1
 replace hrep := RepL.keep hrep k1 nk
 replace hK0 := hK0.tn k1
 have hb1lt := hb1.lt
 refine On 2 [1, 2] <| Oe <| V_seq <| Vr <| On 1 [1, 2, 6] <| Lr 0 (nt kk) hb1 <| On 4 [1, 2, 9] ?_
 by_cases hg3 : kk = 5
 ·
  refine Oq (u := .bool (!(decide (kk = 5)))) (v := .bool false) 9 (by first | (rw [decide_eq_true hg3]; done) | (rw [decide_eq_true hg3]; rfl) | simp [hg3] | rfl) <| On 11 [1, 2, 15, 16] <| Lr 0 (nt kk) hb1 <| On 14 [1, 2, 15, 19] ?_
  by_cases hg4 : kk = 2
  ·
   refine Oq (u := .bool (!(decide (kk = 2)))) (v := .bool false) 19 (by first | (rw [decide_eq_true hg4]; done) | (rw [decide_eq_true hg4]; rfl) | simp [hg4] | rfl) <| Oen [1, 2, 24] <| Vf <| Vsk <| V_seq <| Vr <| On 1 [1, 2, 25] <| Lr 0 (nt kk) hb1 <| Oe <| V_block <| Vn [1, 2, 26, 27] <| Vi (kk = 1) (fun hc5 => ?_) (fun hc5 => ?_)
   ·
    exact Vr <| On 1 [29] <| Lr 2 (nt m0) hb1 <| Kq (r7In_spec m0 0 1073741824 _) <| Oen [4] <| V_ret <| X_ret_block <| X_ret_then <| Xr (.bool (decide ((0 : Int) ≤ m0 ∧ m0 ≤ 1073741824))) ⟨by congr 2; rw [Bool.eq_iff_iff, decide_eq_true_eq, stC_iff]; omega, hK0⟩
   refine Vn [1, 2, 26, 32] <| Vi (kk = 2) (fun hc9 => ?_) (fun hc9 => ?_)
   ·
    refine Vr <| On 1 [2, 34] <| Lr 1 (nt to) hb1 <| Kq (r7In_spec to 0 9 _) <| On 4 [2, 37] ?_
    by_cases hg13 : (0 : Int) ≤ to ∧ to ≤ 9
    ·
     exact Oq (u := .bool (decide ((0 : Int) ≤ to ∧ to ≤ 9))) (v := .bool true) 37 (by first | (rw [decide_eq_true hg13]; done) | (rw [decide_eq_true hg13]; rfl) | simp [hg13] | rfl) <| On 5 [37, 38] <| Lr 2 (nt m0) hb1 <| Kq (r7In_spec m0 0 1073741824 _) <| Oen [4] <| V_ret <| X_ret_block <| X_ret_then <| Xr (.bool (decide ((0 : Int) ≤ m0 ∧ m0 ≤ 1073741824))) ⟨by congr 2; rw [Bool.eq_iff_iff, decide_eq_true_eq, stC_iff]; omega, hK0⟩
    exact Oq (u := .bool (decide ((0 : Int) ≤ to ∧ to ≤ 9))) (v := .bool false) 37 (by first | (rw [decide_eq_false hg13]; done) | (rw [decide_eq_false hg13]; rfl) | simp [hg13] | rfl) <| Oen [4] <| V_ret <| X_ret_block <| X_ret_then <| Xr (.bool false) ⟨by rw [show stepC b ok (CA.mk kk to m0 _ cap kl) = false from Bool.eq_false_iff.2 (fun h => by rcases stC_iff.1 h with h | h | h | h; omega; omega; omega; ((first | omega | (obtain ⟨_, h9, _⟩ := h; rw [hb] at h9; have h8 := of_decide_eq_true h9; omega))))], hK0⟩
   refine V_seq <| Vn [1, 2, 26, 42] <| Vi (kk = 3) (fun hc17 => ?_) (fun hc17 => ?_)
   ·
    refine Vsk <| Vi (kk = 3) (fun hc18 => ?_) (fun hc18 => ?_)
    ·
     exact Vr <| On 1 [45] <| Lr 2 (nt m0) hb1 <| Kq (r7In_spec m0 0 11 _) <| Oen [4] <| V_ret <| X_ret_block <| X_ret_then <| Xr (.bool (decide ((0 : Int) ≤ m0 ∧ m0 ≤ 11))) ⟨by congr 2; rw [Bool.eq_iff_iff, decide_eq_true_eq, stC_iff]; omega, hK0⟩
    refine Vn [1, 2, 48] <| Vi (kk = 5) (fun hc22 => ?_) (fun hc22 => ?_)
    ·
     refine V_seq <| Vr <| On 1 [1, 2, 50] <| Lr 2 (nt m0) hb1 <| On 4 [1, 2, 53] ?_
     by_cases hg23 : m0 = 0
     ·
      refine Oq (u := .bool (!(decide (m0 = 0)))) (v := .bool false) 53 (by first | (rw [decide_eq_true hg23]; done) | (rw [decide_eq_true hg23]; rfl) | simp [hg23] | rfl) <| On 5 [1, 2, 53, 54] <| Lr 3 (.slice A kl.length cap) hb1 <| On 7 [1, 2, 53, 56] <| Kq (r7In_spec (kl.length : Int) 1 4 _) <| On 11 [1, 2, 60] ?_
      by_cases hg27 : (1 : Int) ≤ (kl.length : Int) ∧ (kl.length : Int) ≤ 4
      ·
       refine Oq (u := .bool (!(decide ((1 : Int) ≤ (kl.length : Int) ∧ (kl.length : Int) ≤ 4)))) (v := .bool false) 60 (by first | (rw [decide_eq_true hg27]; done) | (rw [decide_eq_true hg27]; rfl) | simp [hg27] | rfl) <| Oen [1, 2, 63] <| Vi (dp ≥ 3) (fun hc28 => ?_) (fun hc28 => ?_)
       ·
        exact Vn [4] <| Rt <| X_ret_block <| X_ret_then <| Xr (.bool false) ⟨by rw [show stepC b ok (CA.mk kk to m0 _ cap kl) = false from Bool.eq_false_iff.2 (fun h => by rcases stC_iff.1 h with h | h | h | h; omega; omega; omega; ((first | omega | (obtain ⟨_, h9, _⟩ := h; rw [hb] at h9; have h8 := of_decide_eq_true h9; omega))))], hK0⟩
       refine Vsk <| V_seq <| Vn [1, 2, 5] <| V_block <| Vp [(1, nt dp),(2, pt b1),(5, nt 0)] <| V_loop (fun k wI e => ∃ i : Nat, (k + i = kl.length) ∧ (∀ j x, j < i → kl[j]? = some x → ok x = true) ∧ Keep none_ w1 wI ∧ e = [(1, nt dp),(2, pt b1),(5, nt (i : Int))]) kl.length ⟨0, by omega, fun j x h => absurd h (Nat.not_lt_zero _), Keep.refl _ _, rfl⟩ ?_
       rintro k30 w29 _ ⟨i, hki, hpre, hk31, rfl⟩
       have hsz32 := Keep.size hk31
       replace hb1 := hb1.k0 hk31
       replace hA := ArgT.keep0 hA hk31
       replace hrep := RepL.keep hrep hk31 nk
       replace hK0 := hK0.tn hk31
       have hzhk31 := Keep.size hk31
       refine V_seq <| Vr <| On 2 [1, 2, 5, 64, 65] <| Lr 3 (.slice A kl.length cap) hb1 <| Oen [1, 2, 5, 68] <| Vi ((i : Int) < (kl.length : Int)) (fun hc33 => ?_) (fun hc33 => ?_)
       ·
        refine Vsk <| V_seq <| V_block <| Vr <| On 1 [1, 2, 5, 71] <| Lr 3 (.slice A kl.length cap) hb1 <| On 3 [1, 2, 5, 72, 73] ?_
        obtain ⟨b34, o34, L34, rfl, hat34⟩ := ArgT.open_ hA (by first | omega | (simp only [List.length_map]; omega) | (simp; done) | (simp; omega))
        have hb34lt0 := ArgT.lt hA0 (by first | omega | (simp only [List.length_map]; omega) | (simp; done) | (simp; omega))
        have hb34lt := hat34.blk.lt
        refine Oi (b := b34) (o := o34) (len := kl.length) (cap := cap) (j := i) (some 74) 24 (.tmp 72) (.tmp 73) 26 4 48 .i64 ?_
        obtain ⟨x35, hx36⟩ := exAt (xs := kl) (i := i)
        refine OI_aggR 26 (.tmp 74) (o34 + i * 4) (CA.cells x35) (some 75) (by kernel_rfl) (by kernel_rfl) hat34.blk (m := 4) (by kernel_rfl) (AtR.elem' hat34 _ _ (es_at hx36)) (AtR.len hat34 (es_at hx36)) ?_
        have hw37 : i64.wrap (dp + 1) = dp + 1 := wrp
        refine On 7 [1, 2, 5, 75, 77] <| Oq (u := nt (i64.wrap (dp + 1))) (v := nt (dp + 1)) 77 (by rw [hw37]) <| Ok (kL 65 #[(.tmp 75),(.tmp 77)] #[26, 3]) 65 #[.agg (CA.cells x35).toArray, nt (dp + 1)] (some 78) (hIH (by omega) x35 (List.mem_of_getElem? hx36) _ _ (hrep.2.2 x35 (List.mem_of_getElem? hx36))) ?_
        rintro _ w38 ⟨rfl, hk39⟩
        refine ⟨_, rfl, ?_⟩
        have hsz40 := Keep.size hk39
        replace hK0 := hK0.tn hk39
        replace hk31 := hk31.tn hk39
        refine Oen [1, 2, 5, 79] <| Vb (!(ok x35)) (fun hc41 => ?_) (fun hc41 => ?_)
        ·
         exact Vn [4] <| V_ret <| X_ret_block <| X_ret_then <| X_ret_then <| X_ret_block <| X_ret_then <| X_ret_block <| X_ret_then <| Xr (.bool false) ⟨by rw [show stepC b ok (CA.mk kk to m0 _ cap kl) = false from Bool.eq_false_iff.2 (fun h => by rcases stC_iff.1 h with h | h | h | h; omega; omega; omega; (obtain ⟨_, _, _, _, _, h9⟩ := h; have h8 := List.all_eq_true.1 h9 _ (List.mem_of_getElem? hx36); simp_all))], hK0⟩
        refine V_skip <| X_block <| X_then <| V_region ?_
        have hw42 : i64.wrap ((i : Int) + 1) = ((i + 1 : Nat) : Int) := wrp
        refine On 2 [1, 2, 70] <| Oq (u := nt (i64.wrap ((i : Int) + 1))) (v := nt ((i + 1 : Nat) : Int)) 70 (by rw [hw42]) <| Os 3 [(1, nt dp),(2, pt b1),(5, nt ((i + 1 : Nat) : Int))] <| OI_end rfl ?_
        exact V_again (k30 - 1) (by omega) [(1, nt dp),(2, pt b1),(5, nt ((i + 1 : Nat) : Int))] rfl ⟨i + 1, by omega, (fun j x hj hx => by by_cases e : j = i; subst e; rw [hx36] at hx; cases hx; simpa using hc41; exact hpre j x (by omega) hx), hk31, rfl⟩
       exact V_exit <| X_exit_then <| X_exit_then <| X_exit_here <| X_then <| Vn [4] <| V_ret <| X_ret_block <| X_ret_then <| Xr (.bool true) ⟨by rw [show stepC b ok (CA.mk kk to m0 _ cap kl) = true from stC_iff.2 (.inr (.inr (.inr ⟨by omega, by rw [hb]; exact decide_eq_true (by omega), by omega, by omega, by omega, List.all_eq_true.2 (fun x hx => by obtain ⟨j, hj⟩ := List.mem_iff_getElem?.1 hx; exact hpre j x (by have h9 := (List.getElem?_eq_some_iff.1 hj).1; omega) hj)⟩)))], hK0⟩
      exact Oq (u := .bool (!(decide ((1 : Int) ≤ (kl.length : Int) ∧ (kl.length : Int) ≤ 4)))) (v := .bool true) 60 (by first | (rw [decide_eq_false hg27]; done) | (rw [decide_eq_false hg27]; rfl) | simp [hg27] | rfl) <| Oen [1, 2, 63] <| Vo <| Vn [4] <| Rt <| X_ret_block <| X_ret_then <| Xr (.bool false) ⟨by rw [show stepC b ok (CA.mk kk to m0 _ cap kl) = false from Bool.eq_false_iff.2 (fun h => by rcases stC_iff.1 h with h | h | h | h; omega; omega; omega; ((first | omega | (obtain ⟨_, h9, _⟩ := h; rw [hb] at h9; have h8 := of_decide_eq_true h9; omega))))], hK0⟩
     exact Oq (u := .bool (!(decide (m0 = 0)))) (v := .bool true) 53 (by first | (rw [decide_eq_false hg23]; done) | (rw [decide_eq_false hg23]; rfl) | simp [hg23] | rfl) <| Oen [1, 2, 63] <| Vo <| Vn [4] <| Rt <| X_ret_block <| X_ret_then <| Xr (.bool false) ⟨by rw [show stepC b ok (CA.mk kk to m0 _ cap kl) = false from Bool.eq_false_iff.2 (fun h => by rcases stC_iff.1 h with h | h | h | h; omega; omega; omega; ((first | omega | (obtain ⟨_, h9, _⟩ := h; rw [hb] at h9; have h8 := of_decide_eq_true h9; omega))))], hK0⟩
    exact V_skip <| X_block <| X_then <| Vn [4] <| Rr (.bool false) ⟨by rw [show stepC b ok (CA.mk kk to m0 _ cap kl) = false from Bool.eq_false_iff.2 (fun h => by rcases stC_iff.1 h with h | h | h | h; omega; omega; omega; ((first | omega | (obtain ⟨_, h9, _⟩ := h; rw [hb] at h9; have h8 := of_decide_eq_true h9; omega))))], hK0⟩
   refine V_region <| Oen [1, 2, 26, 42] <| Vi (kk = 4) (fun hc43 => ?_) (fun hc43 => ?_)
   ·
    exact Vr <| On 1 [45] <| Lr 2 (nt m0) hb1 <| Kq (r7In_spec m0 0 11 _) <| Oen [4] <| V_ret <| X_ret_block <| X_ret_then <| Xr (.bool (decide ((0 : Int) ≤ m0 ∧ m0 ≤ 11))) ⟨by congr 2; rw [Bool.eq_iff_iff, decide_eq_true_eq, stC_iff]; omega, hK0⟩
   refine Vn [1, 2, 48] <| Vi (kk = 5) (fun hc47 => ?_) (fun hc47 => ?_)
   ·
    refine V_seq <| Vr <| On 1 [1, 2, 50] <| Lr 2 (nt m0) hb1 <| On 4 [1, 2, 53] ?_
    by_cases hg48 : m0 = 0
    ·
     refine Oq (u := .bool (!(decide (m0 = 0)))) (v := .bool false) 53 (by first | (rw [decide_eq_true hg48]; done) | (rw [decide_eq_true hg48]; rfl) | simp [hg48] | rfl) <| On 5 [1, 2, 53, 54] <| Lr 3 (.slice A kl.length cap) hb1 <| On 7 [1, 2, 53, 56] <| Kq (r7In_spec (kl.length : Int) 1 4 _) <| On 11 [1, 2, 60] ?_
     by_cases hg52 : (1 : Int) ≤ (kl.length : Int) ∧ (kl.length : Int) ≤ 4
     ·
      refine Oq (u := .bool (!(decide ((1 : Int) ≤ (kl.length : Int) ∧ (kl.length : Int) ≤ 4)))) (v := .bool false) 60 (by first | (rw [decide_eq_true hg52]; done) | (rw [decide_eq_true hg52]; rfl) | simp [hg52] | rfl) <| Oen [1, 2, 63] <| Vi (dp ≥ 3) (fun hc53 => ?_) (fun hc53 => ?_)
      ·
       exact Vn [4] <| Rt <| X_ret_block <| X_ret_then <| Xr (.bool false) ⟨by rw [show stepC b ok (CA.mk kk to m0 _ cap kl) = false from Bool.eq_false_iff.2 (fun h => by rcases stC_iff.1 h with h | h | h | h; omega; omega; omega; ((first | omega | (obtain ⟨_, h9, _⟩ := h; rw [hb] at h9; have h8 := of_decide_eq_true h9; omega))))], hK0⟩
      refine Vsk <| V_seq <| Vn [1, 2, 5] <| V_block <| Vp [(1, nt dp),(2, pt b1),(5, nt 0)] <| V_loop (fun k wI e => ∃ i : Nat, (k + i = kl.length) ∧ (∀ j x, j < i → kl[j]? = some x → ok x = true) ∧ Keep none_ w1 wI ∧ e = [(1, nt dp),(2, pt b1),(5, nt (i : Int))]) kl.length ⟨0, by omega, fun j x h => absurd h (Nat.not_lt_zero _), Keep.refl _ _, rfl⟩ ?_
      rintro k55 w54 _ ⟨i, hki, hpre, hk56, rfl⟩
      have hsz57 := Keep.size hk56
      replace hb1 := hb1.k0 hk56
      replace hA := ArgT.keep0 hA hk56
      replace hrep := RepL.keep hrep hk56 nk
      replace hK0 := hK0.tn hk56
      have hzhk56 := Keep.size hk56
      refine V_seq <| Vr <| On 2 [1, 2, 5, 64, 65] <| Lr 3 (.slice A kl.length cap) hb1 <| Oen [1, 2, 5, 68] <| Vi ((i : Int) < (kl.length : Int)) (fun hc58 => ?_) (fun hc58 => ?_)
      ·
       refine Vsk <| V_seq <| V_block <| Vr <| On 1 [1, 2, 5, 71] <| Lr 3 (.slice A kl.length cap) hb1 <| On 3 [1, 2, 5, 72, 73] ?_
       obtain ⟨b59, o59, L59, rfl, hat59⟩ := ArgT.open_ hA (by first | omega | (simp only [List.length_map]; omega) | (simp; done) | (simp; omega))
       have hb59lt0 := ArgT.lt hA0 (by first | omega | (simp only [List.length_map]; omega) | (simp; done) | (simp; omega))
       have hb59lt := hat59.blk.lt
       refine Oi (b := b59) (o := o59) (len := kl.length) (cap := cap) (j := i) (some 74) 24 (.tmp 72) (.tmp 73) 26 4 48 .i64 ?_
       obtain ⟨x60, hx61⟩ := exAt (xs := kl) (i := i)
       refine OI_aggR 26 (.tmp 74) (o59 + i * 4) (CA.cells x60) (some 75) (by kernel_rfl) (by kernel_rfl) hat59.blk (m := 4) (by kernel_rfl) (AtR.elem' hat59 _ _ (es_at hx61)) (AtR.len hat59 (es_at hx61)) ?_
       have hw62 : i64.wrap (dp + 1) = dp + 1 := wrp
       refine On 7 [1, 2, 5, 75, 77] <| Oq (u := nt (i64.wrap (dp + 1))) (v := nt (dp + 1)) 77 (by rw [hw62]) <| Ok (kL 65 #[(.tmp 75),(.tmp 77)] #[26, 3]) 65 #[.agg (CA.cells x60).toArray, nt (dp + 1)] (some 78) (hIH (by omega) x60 (List.mem_of_getElem? hx61) _ _ (hrep.2.2 x60 (List.mem_of_getElem? hx61))) ?_
       rintro _ w63 ⟨rfl, hk64⟩
       refine ⟨_, rfl, ?_⟩
       have hsz65 := Keep.size hk64
       replace hK0 := hK0.tn hk64
       replace hk56 := hk56.tn hk64
       refine Oen [1, 2, 5, 79] <| Vb (!(ok x60)) (fun hc66 => ?_) (fun hc66 => ?_)
       ·
        exact Vn [4] <| V_ret <| X_ret_block <| X_ret_then <| X_ret_then <| X_ret_block <| X_ret_then <| X_ret_block <| X_ret_then <| Xr (.bool false) ⟨by rw [show stepC b ok (CA.mk kk to m0 _ cap kl) = false from Bool.eq_false_iff.2 (fun h => by rcases stC_iff.1 h with h | h | h | h; omega; omega; omega; (obtain ⟨_, _, _, _, _, h9⟩ := h; have h8 := List.all_eq_true.1 h9 _ (List.mem_of_getElem? hx61); simp_all))], hK0⟩
       refine V_skip <| X_block <| X_then <| V_region ?_
       have hw67 : i64.wrap ((i : Int) + 1) = ((i + 1 : Nat) : Int) := wrp
       refine On 2 [1, 2, 70] <| Oq (u := nt (i64.wrap ((i : Int) + 1))) (v := nt ((i + 1 : Nat) : Int)) 70 (by rw [hw67]) <| Os 3 [(1, nt dp),(2, pt b1),(5, nt ((i + 1 : Nat) : Int))] <| OI_end rfl ?_
       exact V_again (k55 - 1) (by omega) [(1, nt dp),(2, pt b1),(5, nt ((i + 1 : Nat) : Int))] rfl ⟨i + 1, by omega, (fun j x hj hx => by by_cases e : j = i; subst e; rw [hx61] at hx; cases hx; simpa using hc66; exact hpre j x (by omega) hx), hk56, rfl⟩
      exact V_exit <| X_exit_then <| X_exit_then <| X_exit_here <| X_then <| Vn [4] <| V_ret <| X_ret_block <| X_ret_then <| Xr (.bool true) ⟨by rw [show stepC b ok (CA.mk kk to m0 _ cap kl) = true from stC_iff.2 (.inr (.inr (.inr ⟨by omega, by rw [hb]; exact decide_eq_true (by omega), by omega, by omega, by omega, List.all_eq_true.2 (fun x hx => by obtain ⟨j, hj⟩ := List.mem_iff_getElem?.1 hx; exact hpre j x (by have h9 := (List.getElem?_eq_some_iff.1 hj).1; omega) hj)⟩)))], hK0⟩
     exact Oq (u := .bool (!(decide ((1 : Int) ≤ (kl.length : Int) ∧ (kl.length : Int) ≤ 4)))) (v := .bool true) 60 (by first | (rw [decide_eq_false hg52]; done) | (rw [decide_eq_false hg52]; rfl) | simp [hg52] | rfl) <| Oen [1, 2, 63] <| Vo <| Vn [4] <| Rt <| X_ret_block <| X_ret_then <| Xr (.bool false) ⟨by rw [show stepC b ok (CA.mk kk to m0 _ cap kl) = false from Bool.eq_false_iff.2 (fun h => by rcases stC_iff.1 h with h | h | h | h; omega; omega; omega; ((first | omega | (obtain ⟨_, h9, _⟩ := h; rw [hb] at h9; have h8 := of_decide_eq_true h9; omega))))], hK0⟩
    exact Oq (u := .bool (!(decide (m0 = 0)))) (v := .bool true) 53 (by first | (rw [decide_eq_false hg48]; done) | (rw [decide_eq_false hg48]; rfl) | simp [hg48] | rfl) <| Oen [1, 2, 63] <| Vo <| Vn [4] <| Rt <| X_ret_block <| X_ret_then <| Xr (.bool false) ⟨by rw [show stepC b ok (CA.mk kk to m0 _ cap kl) = false from Bool.eq_false_iff.2 (fun h => by rcases stC_iff.1 h with h | h | h | h; omega; omega; omega; ((first | omega | (obtain ⟨_, h9, _⟩ := h; rw [hb] at h9; have h8 := of_decide_eq_true h9; omega))))], hK0⟩
   exact V_skip <| X_block <| X_then <| Vn [4] <| Rr (.bool false) ⟨by rw [show stepC b ok (CA.mk kk to m0 _ cap kl) = false from Bool.eq_false_iff.2 (fun h => by rcases stC_iff.1 h with h | h | h | h; omega; omega; omega; ((first | omega | (obtain ⟨_, h9, _⟩ := h; rw [hb] at h9; have h8 := of_decide_eq_true h9; omega))))], hK0⟩
  refine Oq (u := .bool (!(decide (kk = 2)))) (v := .bool true) 19 (by first | (rw [decide_eq_false hg4]; done) | (rw [decide_eq_false hg4]; rfl) | simp [hg4] | rfl) <| On 15 [1, 2, 15, 19, 20] <| Lr 1 (nt to) hb1 <| Oen [1, 2, 24] <| V_not (to = 0) (by kernel_rfl) (fun hc68 => ?_) (fun hc68 => ?_)
  ·
   exact Vn [4] <| Rt <| Xr (.bool false) ⟨by rw [show stepC b ok (CA.mk kk to m0 _ cap kl) = false from Bool.eq_false_iff.2 (fun h => by rcases stC_iff.1 h with h | h | h | h; omega; omega; omega; ((first | omega | (obtain ⟨_, h9, _⟩ := h; rw [hb] at h9; have h8 := of_decide_eq_true h9; omega))))], hK0⟩
  refine Vsk <| V_seq <| Vr <| On 1 [1, 2, 25] <| Lr 0 (nt kk) hb1 <| Oe <| V_block <| Vn [1, 2, 26, 27] <| Vi (kk = 1) (fun hc69 => ?_) (fun hc69 => ?_)
  ·
   exact Vr <| On 1 [29] <| Lr 2 (nt m0) hb1 <| Kq (r7In_spec m0 0 1073741824 _) <| Oen [4] <| V_ret <| X_ret_block <| X_ret_then <| Xr (.bool (decide ((0 : Int) ≤ m0 ∧ m0 ≤ 1073741824))) ⟨by congr 2; rw [Bool.eq_iff_iff, decide_eq_true_eq, stC_iff]; omega, hK0⟩
  refine Vn [1, 2, 26, 32] <| Vi (kk = 2) (fun hc73 => ?_) (fun hc73 => ?_)
  ·
   refine Vr <| On 1 [2, 34] <| Lr 1 (nt to) hb1 <| Kq (r7In_spec to 0 9 _) <| On 4 [2, 37] ?_
   by_cases hg77 : (0 : Int) ≤ to ∧ to ≤ 9
   ·
    exact Oq (u := .bool (decide ((0 : Int) ≤ to ∧ to ≤ 9))) (v := .bool true) 37 (by first | (rw [decide_eq_true hg77]; done) | (rw [decide_eq_true hg77]; rfl) | simp [hg77] | rfl) <| On 5 [37, 38] <| Lr 2 (nt m0) hb1 <| Kq (r7In_spec m0 0 1073741824 _) <| Oen [4] <| V_ret <| X_ret_block <| X_ret_then <| Xr (.bool (decide ((0 : Int) ≤ m0 ∧ m0 ≤ 1073741824))) ⟨by congr 2; rw [Bool.eq_iff_iff, decide_eq_true_eq, stC_iff]; omega, hK0⟩
   exact Oq (u := .bool (decide ((0 : Int) ≤ to ∧ to ≤ 9))) (v := .bool false) 37 (by first | (rw [decide_eq_false hg77]; done) | (rw [decide_eq_false hg77]; rfl) | simp [hg77] | rfl) <| Oen [4] <| V_ret <| X_ret_block <| X_ret_then <| Xr (.bool false) ⟨by rw [show stepC b ok (CA.mk kk to m0 _ cap kl) = false from Bool.eq_false_iff.2 (fun h => by rcases stC_iff.1 h with h | h | h | h; omega; omega; omega; ((first | omega | (obtain ⟨_, h9, _⟩ := h; rw [hb] at h9; have h8 := of_decide_eq_true h9; omega))))], hK0⟩
  refine V_seq <| Vn [1, 2, 26, 42] <| Vi (kk = 3) (fun hc81 => ?_) (fun hc81 => ?_)
  ·
   refine Vsk <| Vi (kk = 3) (fun hc82 => ?_) (fun hc82 => ?_)
   ·
    exact Vr <| On 1 [45] <| Lr 2 (nt m0) hb1 <| Kq (r7In_spec m0 0 11 _) <| Oen [4] <| V_ret <| X_ret_block <| X_ret_then <| Xr (.bool (decide ((0 : Int) ≤ m0 ∧ m0 ≤ 11))) ⟨by congr 2; rw [Bool.eq_iff_iff, decide_eq_true_eq, stC_iff]; omega, hK0⟩
   refine Vn [1, 2, 48] <| Vi (kk = 5) (fun hc86 => ?_) (fun hc86 => ?_)
   ·
    refine V_seq <| Vr <| On 1 [1, 2, 50] <| Lr 2 (nt m0) hb1 <| On 4 [1, 2, 53] ?_
    by_cases hg87 : m0 = 0
    ·
     refine Oq (u := .bool (!(decide (m0 = 0)))) (v := .bool false) 53 (by first | (rw [decide_eq_true hg87]; done) | (rw [decide_eq_true hg87]; rfl) | simp [hg87] | rfl) <| On 5 [1, 2, 53, 54] <| Lr 3 (.slice A kl.length cap) hb1 <| On 7 [1, 2, 53, 56] <| Kq (r7In_spec (kl.length : Int) 1 4 _) <| On 11 [1, 2, 60] ?_
     by_cases hg91 : (1 : Int) ≤ (kl.length : Int) ∧ (kl.length : Int) ≤ 4
     ·
      refine Oq (u := .bool (!(decide ((1 : Int) ≤ (kl.length : Int) ∧ (kl.length : Int) ≤ 4)))) (v := .bool false) 60 (by first | (rw [decide_eq_true hg91]; done) | (rw [decide_eq_true hg91]; rfl) | simp [hg91] | rfl) <| Oen [1, 2, 63] <| Vi (dp ≥ 3) (fun hc92 => ?_) (fun hc92 => ?_)
      ·
       exact Vn [4] <| Rt <| X_ret_block <| X_ret_then <| Xr (.bool false) ⟨by rw [show stepC b ok (CA.mk kk to m0 _ cap kl) = false from Bool.eq_false_iff.2 (fun h => by rcases stC_iff.1 h with h | h | h | h; omega; omega; omega; ((first | omega | (obtain ⟨_, h9, _⟩ := h; rw [hb] at h9; have h8 := of_decide_eq_true h9; omega))))], hK0⟩
      refine Vsk <| V_seq <| Vn [1, 2, 5] <| V_block <| Vp [(1, nt dp),(2, pt b1),(5, nt 0)] <| V_loop (fun k wI e => ∃ i : Nat, (k + i = kl.length) ∧ (∀ j x, j < i → kl[j]? = some x → ok x = true) ∧ Keep none_ w1 wI ∧ e = [(1, nt dp),(2, pt b1),(5, nt (i : Int))]) kl.length ⟨0, by omega, fun j x h => absurd h (Nat.not_lt_zero _), Keep.refl _ _, rfl⟩ ?_
      rintro k94 w93 _ ⟨i, hki, hpre, hk95, rfl⟩
      have hsz96 := Keep.size hk95
      replace hb1 := hb1.k0 hk95
      replace hA := ArgT.keep0 hA hk95
      replace hrep := RepL.keep hrep hk95 nk
      replace hK0 := hK0.tn hk95
      have hzhk95 := Keep.size hk95
      refine V_seq <| Vr <| On 2 [1, 2, 5, 64, 65] <| Lr 3 (.slice A kl.length cap) hb1 <| Oen [1, 2, 5, 68] <| Vi ((i : Int) < (kl.length : Int)) (fun hc97 => ?_) (fun hc97 => ?_)
      ·
       refine Vsk <| V_seq <| V_block <| Vr <| On 1 [1, 2, 5, 71] <| Lr 3 (.slice A kl.length cap) hb1 <| On 3 [1, 2, 5, 72, 73] ?_
       obtain ⟨b98, o98, L98, rfl, hat98⟩ := ArgT.open_ hA (by first | omega | (simp only [List.length_map]; omega) | (simp; done) | (simp; omega))
       have hb98lt0 := ArgT.lt hA0 (by first | omega | (simp only [List.length_map]; omega) | (simp; done) | (simp; omega))
       have hb98lt := hat98.blk.lt
       refine Oi (b := b98) (o := o98) (len := kl.length) (cap := cap) (j := i) (some 74) 24 (.tmp 72) (.tmp 73) 26 4 48 .i64 ?_
       obtain ⟨x99, hx100⟩ := exAt (xs := kl) (i := i)
       refine OI_aggR 26 (.tmp 74) (o98 + i * 4) (CA.cells x99) (some 75) (by kernel_rfl) (by kernel_rfl) hat98.blk (m := 4) (by kernel_rfl) (AtR.elem' hat98 _ _ (es_at hx100)) (AtR.len hat98 (es_at hx100)) ?_
       have hw101 : i64.wrap (dp + 1) = dp + 1 := wrp
       refine On 7 [1, 2, 5, 75, 77] <| Oq (u := nt (i64.wrap (dp + 1))) (v := nt (dp + 1)) 77 (by rw [hw101]) <| Ok (kL 65 #[(.tmp 75),(.tmp 77)] #[26, 3]) 65 #[.agg (CA.cells x99).toArray, nt (dp + 1)] (some 78) (hIH (by omega) x99 (List.mem_of_getElem? hx100) _ _ (hrep.2.2 x99 (List.mem_of_getElem? hx100))) ?_
       rintro _ w102 ⟨rfl, hk103⟩
       refine ⟨_, rfl, ?_⟩
       have hsz104 := Keep.size hk103
       replace hK0 := hK0.tn hk103
       replace hk95 := hk95.tn hk103
       refine Oen [1, 2, 5, 79] <| Vb (!(ok x99)) (fun hc105 => ?_) (fun hc105 => ?_)
       ·
        exact Vn [4] <| V_ret <| X_ret_block <| X_ret_then <| X_ret_then <| X_ret_block <| X_ret_then <| X_ret_block <| X_ret_then <| Xr (.bool false) ⟨by rw [show stepC b ok (CA.mk kk to m0 _ cap kl) = false from Bool.eq_false_iff.2 (fun h => by rcases stC_iff.1 h with h | h | h | h; omega; omega; omega; (obtain ⟨_, _, _, _, _, h9⟩ := h; have h8 := List.all_eq_true.1 h9 _ (List.mem_of_getElem? hx100); simp_all))], hK0⟩
       refine V_skip <| X_block <| X_then <| V_region ?_
       have hw106 : i64.wrap ((i : Int) + 1) = ((i + 1 : Nat) : Int) := wrp
       refine On 2 [1, 2, 70] <| Oq (u := nt (i64.wrap ((i : Int) + 1))) (v := nt ((i + 1 : Nat) : Int)) 70 (by rw [hw106]) <| Os 3 [(1, nt dp),(2, pt b1),(5, nt ((i + 1 : Nat) : Int))] <| OI_end rfl ?_
       exact V_again (k94 - 1) (by omega) [(1, nt dp),(2, pt b1),(5, nt ((i + 1 : Nat) : Int))] rfl ⟨i + 1, by omega, (fun j x hj hx => by by_cases e : j = i; subst e; rw [hx100] at hx; cases hx; simpa using hc105; exact hpre j x (by omega) hx), hk95, rfl⟩
      exact V_exit <| X_exit_then <| X_exit_then <| X_exit_here <| X_then <| Vn [4] <| V_ret <| X_ret_block <| X_ret_then <| Xr (.bool true) ⟨by rw [show stepC b ok (CA.mk kk to m0 _ cap kl) = true from stC_iff.2 (.inr (.inr (.inr ⟨by omega, by rw [hb]; exact decide_eq_true (by omega), by omega, by omega, by omega, List.all_eq_true.2 (fun x hx => by obtain ⟨j, hj⟩ := List.mem_iff_getElem?.1 hx; exact hpre j x (by have h9 := (List.getElem?_eq_some_iff.1 hj).1; omega) hj)⟩)))], hK0⟩
     exact Oq (u := .bool (!(decide ((1 : Int) ≤ (kl.length : Int) ∧ (kl.length : Int) ≤ 4)))) (v := .bool true) 60 (by first | (rw [decide_eq_false hg91]; done) | (rw [decide_eq_false hg91]; rfl) | simp [hg91] | rfl) <| Oen [1, 2, 63] <| Vo <| Vn [4] <| Rt <| X_ret_block <| X_ret_then <| Xr (.bool false) ⟨by rw [show stepC b ok (CA.mk kk to m0 _ cap kl) = false from Bool.eq_false_iff.2 (fun h => by rcases stC_iff.1 h with h | h | h | h; omega; omega; omega; ((first | omega | (obtain ⟨_, h9, _⟩ := h; rw [hb] at h9; have h8 := of_decide_eq_true h9; omega))))], hK0⟩
    exact Oq (u := .bool (!(decide (m0 = 0)))) (v := .bool true) 53 (by first | (rw [decide_eq_false hg87]; done) | (rw [decide_eq_false hg87]; rfl) | simp [hg87] | rfl) <| Oen [1, 2, 63] <| Vo <| Vn [4] <| Rt <| X_ret_block <| X_ret_then <| Xr (.bool false) ⟨by rw [show stepC b ok (CA.mk kk to m0 _ cap kl) = false from Bool.eq_false_iff.2 (fun h => by rcases stC_iff.1 h with h | h | h | h; omega; omega; omega; ((first | omega | (obtain ⟨_, h9, _⟩ := h; rw [hb] at h9; have h8 := of_decide_eq_true h9; omega))))], hK0⟩
   exact V_skip <| X_block <| X_then <| Vn [4] <| Rr (.bool false) ⟨by rw [show stepC b ok (CA.mk kk to m0 _ cap kl) = false from Bool.eq_false_iff.2 (fun h => by rcases stC_iff.1 h with h | h | h | h; omega; omega; omega; ((first | omega | (obtain ⟨_, h9, _⟩ := h; rw [hb] at h9; have h8 := of_decide_eq_true h9; omega))))], hK0⟩
  refine V_region <| Oen [1, 2, 26, 42] <| Vi (kk = 4) (fun hc107 => ?_) (fun hc107 => ?_)
  ·
   exact Vr <| On 1 [45] <| Lr 2 (nt m0) hb1 <| Kq (r7In_spec m0 0 11 _) <| Oen [4] <| V_ret <| X_ret_block <| X_ret_then <| Xr (.bool (decide ((0 : Int) ≤ m0 ∧ m0 ≤ 11))) ⟨by congr 2; rw [Bool.eq_iff_iff, decide_eq_true_eq, stC_iff]; omega, hK0⟩
  refine Vn [1, 2, 48] <| Vi (kk = 5) (fun hc111 => ?_) (fun hc111 => ?_)
  ·
   refine V_seq <| Vr <| On 1 [1, 2, 50] <| Lr 2 (nt m0) hb1 <| On 4 [1, 2, 53] ?_
   by_cases hg112 : m0 = 0
   ·
    refine Oq (u := .bool (!(decide (m0 = 0)))) (v := .bool false) 53 (by first | (rw [decide_eq_true hg112]; done) | (rw [decide_eq_true hg112]; rfl) | simp [hg112] | rfl) <| On 5 [1, 2, 53, 54] <| Lr 3 (.slice A kl.length cap) hb1 <| On 7 [1, 2, 53, 56] <| Kq (r7In_spec (kl.length : Int) 1 4 _) <| On 11 [1, 2, 60] ?_
    by_cases hg116 : (1 : Int) ≤ (kl.length : Int) ∧ (kl.length : Int) ≤ 4
    ·
     refine Oq (u := .bool (!(decide ((1 : Int) ≤ (kl.length : Int) ∧ (kl.length : Int) ≤ 4)))) (v := .bool false) 60 (by first | (rw [decide_eq_true hg116]; done) | (rw [decide_eq_true hg116]; rfl) | simp [hg116] | rfl) <| Oen [1, 2, 63] <| Vi (dp ≥ 3) (fun hc117 => ?_) (fun hc117 => ?_)
     ·
      exact Vn [4] <| Rt <| X_ret_block <| X_ret_then <| Xr (.bool false) ⟨by rw [show stepC b ok (CA.mk kk to m0 _ cap kl) = false from Bool.eq_false_iff.2 (fun h => by rcases stC_iff.1 h with h | h | h | h; omega; omega; omega; ((first | omega | (obtain ⟨_, h9, _⟩ := h; rw [hb] at h9; have h8 := of_decide_eq_true h9; omega))))], hK0⟩
     refine Vsk <| V_seq <| Vn [1, 2, 5] <| V_block <| Vp [(1, nt dp),(2, pt b1),(5, nt 0)] <| V_loop (fun k wI e => ∃ i : Nat, (k + i = kl.length) ∧ (∀ j x, j < i → kl[j]? = some x → ok x = true) ∧ Keep none_ w1 wI ∧ e = [(1, nt dp),(2, pt b1),(5, nt (i : Int))]) kl.length ⟨0, by omega, fun j x h => absurd h (Nat.not_lt_zero _), Keep.refl _ _, rfl⟩ ?_
     rintro k119 w118 _ ⟨i, hki, hpre, hk120, rfl⟩
     have hsz121 := Keep.size hk120
     replace hb1 := hb1.k0 hk120
     replace hA := ArgT.keep0 hA hk120
     replace hrep := RepL.keep hrep hk120 nk
     replace hK0 := hK0.tn hk120
     have hzhk120 := Keep.size hk120
     refine V_seq <| Vr <| On 2 [1, 2, 5, 64, 65] <| Lr 3 (.slice A kl.length cap) hb1 <| Oen [1, 2, 5, 68] <| Vi ((i : Int) < (kl.length : Int)) (fun hc122 => ?_) (fun hc122 => ?_)
     ·
      refine Vsk <| V_seq <| V_block <| Vr <| On 1 [1, 2, 5, 71] <| Lr 3 (.slice A kl.length cap) hb1 <| On 3 [1, 2, 5, 72, 73] ?_
      obtain ⟨b123, o123, L123, rfl, hat123⟩ := ArgT.open_ hA (by first | omega | (simp only [List.length_map]; omega) | (simp; done) | (simp; omega))
      have hb123lt0 := ArgT.lt hA0 (by first | omega | (simp only [List.length_map]; omega) | (simp; done) | (simp; omega))
      have hb123lt := hat123.blk.lt
      refine Oi (b := b123) (o := o123) (len := kl.length) (cap := cap) (j := i) (some 74) 24 (.tmp 72) (.tmp 73) 26 4 48 .i64 ?_
      obtain ⟨x124, hx125⟩ := exAt (xs := kl) (i := i)
      refine OI_aggR 26 (.tmp 74) (o123 + i * 4) (CA.cells x124) (some 75) (by kernel_rfl) (by kernel_rfl) hat123.blk (m := 4) (by kernel_rfl) (AtR.elem' hat123 _ _ (es_at hx125)) (AtR.len hat123 (es_at hx125)) ?_
      have hw126 : i64.wrap (dp + 1) = dp + 1 := wrp
      refine On 7 [1, 2, 5, 75, 77] <| Oq (u := nt (i64.wrap (dp + 1))) (v := nt (dp + 1)) 77 (by rw [hw126]) <| Ok (kL 65 #[(.tmp 75),(.tmp 77)] #[26, 3]) 65 #[.agg (CA.cells x124).toArray, nt (dp + 1)] (some 78) (hIH (by omega) x124 (List.mem_of_getElem? hx125) _ _ (hrep.2.2 x124 (List.mem_of_getElem? hx125))) ?_
      rintro _ w127 ⟨rfl, hk128⟩
      refine ⟨_, rfl, ?_⟩
      have hsz129 := Keep.size hk128
      replace hK0 := hK0.tn hk128
      replace hk120 := hk120.tn hk128
      refine Oen [1, 2, 5, 79] <| Vb (!(ok x124)) (fun hc130 => ?_) (fun hc130 => ?_)
      ·
       exact Vn [4] <| V_ret <| X_ret_block <| X_ret_then <| X_ret_then <| X_ret_block <| X_ret_then <| X_ret_block <| X_ret_then <| Xr (.bool false) ⟨by rw [show stepC b ok (CA.mk kk to m0 _ cap kl) = false from Bool.eq_false_iff.2 (fun h => by rcases stC_iff.1 h with h | h | h | h; omega; omega; omega; (obtain ⟨_, _, _, _, _, h9⟩ := h; have h8 := List.all_eq_true.1 h9 _ (List.mem_of_getElem? hx125); simp_all))], hK0⟩
      refine V_skip <| X_block <| X_then <| V_region ?_
      have hw131 : i64.wrap ((i : Int) + 1) = ((i + 1 : Nat) : Int) := wrp
      refine On 2 [1, 2, 70] <| Oq (u := nt (i64.wrap ((i : Int) + 1))) (v := nt ((i + 1 : Nat) : Int)) 70 (by rw [hw131]) <| Os 3 [(1, nt dp),(2, pt b1),(5, nt ((i + 1 : Nat) : Int))] <| OI_end rfl ?_
      exact V_again (k119 - 1) (by omega) [(1, nt dp),(2, pt b1),(5, nt ((i + 1 : Nat) : Int))] rfl ⟨i + 1, by omega, (fun j x hj hx => by by_cases e : j = i; subst e; rw [hx125] at hx; cases hx; simpa using hc130; exact hpre j x (by omega) hx), hk120, rfl⟩
     exact V_exit <| X_exit_then <| X_exit_then <| X_exit_here <| X_then <| Vn [4] <| V_ret <| X_ret_block <| X_ret_then <| Xr (.bool true) ⟨by rw [show stepC b ok (CA.mk kk to m0 _ cap kl) = true from stC_iff.2 (.inr (.inr (.inr ⟨by omega, by rw [hb]; exact decide_eq_true (by omega), by omega, by omega, by omega, List.all_eq_true.2 (fun x hx => by obtain ⟨j, hj⟩ := List.mem_iff_getElem?.1 hx; exact hpre j x (by have h9 := (List.getElem?_eq_some_iff.1 hj).1; omega) hj)⟩)))], hK0⟩
    exact Oq (u := .bool (!(decide ((1 : Int) ≤ (kl.length : Int) ∧ (kl.length : Int) ≤ 4)))) (v := .bool true) 60 (by first | (rw [decide_eq_false hg116]; done) | (rw [decide_eq_false hg116]; rfl) | simp [hg116] | rfl) <| Oen [1, 2, 63] <| Vo <| Vn [4] <| Rt <| X_ret_block <| X_ret_then <| Xr (.bool false) ⟨by rw [show stepC b ok (CA.mk kk to m0 _ cap kl) = false from Bool.eq_false_iff.2 (fun h => by rcases stC_iff.1 h with h | h | h | h; omega; omega; omega; ((first | omega | (obtain ⟨_, h9, _⟩ := h; rw [hb] at h9; have h8 := of_decide_eq_true h9; omega))))], hK0⟩
   exact Oq (u := .bool (!(decide (m0 = 0)))) (v := .bool true) 53 (by first | (rw [decide_eq_false hg112]; done) | (rw [decide_eq_false hg112]; rfl) | simp [hg112] | rfl) <| Oen [1, 2, 63] <| Vo <| Vn [4] <| Rt <| X_ret_block <| X_ret_then <| Xr (.bool false) ⟨by rw [show stepC b ok (CA.mk kk to m0 _ cap kl) = false from Bool.eq_false_iff.2 (fun h => by rcases stC_iff.1 h with h | h | h | h; omega; omega; omega; ((first | omega | (obtain ⟨_, h9, _⟩ := h; rw [hb] at h9; have h8 := of_decide_eq_true h9; omega))))], hK0⟩
  exact V_skip <| X_block <| X_then <| Vn [4] <| Rr (.bool false) ⟨by rw [show stepC b ok (CA.mk kk to m0 _ cap kl) = false from Bool.eq_false_iff.2 (fun h => by rcases stC_iff.1 h with h | h | h | h; omega; omega; omega; ((first | omega | (obtain ⟨_, h9, _⟩ := h; rw [hb] at h9; have h8 := of_decide_eq_true h9; omega))))], hK0⟩
 refine Oq (u := .bool (!(decide (kk = 5)))) (v := .bool true) 9 (by first | (rw [decide_eq_false hg3]; done) | (rw [decide_eq_false hg3]; rfl) | simp [hg3] | rfl) <| On 5 [1, 2, 9, 10] <| Lr 3 (.slice A kl.length cap) hb1 <| On 10 [1, 2, 15] ?_
 by_cases hg132 : (kl.length : Int) > 0
 ·
  exact Oq (u := .bool (decide ((kl.length : Int) > 0))) (v := .bool true) 15 (by first | (rw [decide_eq_true hg132]; done) | (rw [decide_eq_true hg132]; rfl) | simp [hg132] | rfl) <| Oen [1, 2, 24] <| Vo <| Vn [4] <| Rt <| Xr (.bool false) ⟨by rw [show stepC b ok (CA.mk kk to m0 _ cap kl) = false from Bool.eq_false_iff.2 (fun h => by rcases stC_iff.1 h with h | h | h | h; omega; omega; omega; ((first | omega | (obtain ⟨_, h9, _⟩ := h; rw [hb] at h9; have h8 := of_decide_eq_true h9; omega))))], hK0⟩
 refine Oq (u := .bool (decide ((kl.length : Int) > 0))) (v := .bool false) 15 (by first | (rw [decide_eq_false hg132]; done) | (rw [decide_eq_false hg132]; rfl) | simp [hg132] | rfl) <| On 11 [1, 2, 15, 16] <| Lr 0 (nt kk) hb1 <| On 14 [1, 2, 15, 19] ?_
 by_cases hg133 : kk = 2
 ·
  refine Oq (u := .bool (!(decide (kk = 2)))) (v := .bool false) 19 (by first | (rw [decide_eq_true hg133]; done) | (rw [decide_eq_true hg133]; rfl) | simp [hg133] | rfl) <| Oen [1, 2, 24] <| Vf <| Vsk <| V_seq <| Vr <| On 1 [1, 2, 25] <| Lr 0 (nt kk) hb1 <| Oe <| V_block <| Vn [1, 2, 26, 27] <| Vi (kk = 1) (fun hc134 => ?_) (fun hc134 => ?_)
  ·
   exact Vr <| On 1 [29] <| Lr 2 (nt m0) hb1 <| Kq (r7In_spec m0 0 1073741824 _) <| Oen [4] <| V_ret <| X_ret_block <| X_ret_then <| Xr (.bool (decide ((0 : Int) ≤ m0 ∧ m0 ≤ 1073741824))) ⟨by congr 2; rw [Bool.eq_iff_iff, decide_eq_true_eq, stC_iff]; omega, hK0⟩
  refine Vn [1, 2, 26, 32] <| Vi (kk = 2) (fun hc138 => ?_) (fun hc138 => ?_)
  ·
   refine Vr <| On 1 [2, 34] <| Lr 1 (nt to) hb1 <| Kq (r7In_spec to 0 9 _) <| On 4 [2, 37] ?_
   by_cases hg142 : (0 : Int) ≤ to ∧ to ≤ 9
   ·
    exact Oq (u := .bool (decide ((0 : Int) ≤ to ∧ to ≤ 9))) (v := .bool true) 37 (by first | (rw [decide_eq_true hg142]; done) | (rw [decide_eq_true hg142]; rfl) | simp [hg142] | rfl) <| On 5 [37, 38] <| Lr 2 (nt m0) hb1 <| Kq (r7In_spec m0 0 1073741824 _) <| Oen [4] <| V_ret <| X_ret_block <| X_ret_then <| Xr (.bool (decide ((0 : Int) ≤ m0 ∧ m0 ≤ 1073741824))) ⟨by congr 2; rw [Bool.eq_iff_iff, decide_eq_true_eq, stC_iff]; omega, hK0⟩
   exact Oq (u := .bool (decide ((0 : Int) ≤ to ∧ to ≤ 9))) (v := .bool false) 37 (by first | (rw [decide_eq_false hg142]; done) | (rw [decide_eq_false hg142]; rfl) | simp [hg142] | rfl) <| Oen [4] <| V_ret <| X_ret_block <| X_ret_then <| Xr (.bool false) ⟨by rw [show stepC b ok (CA.mk kk to m0 _ cap kl) = false from Bool.eq_false_iff.2 (fun h => by rcases stC_iff.1 h with h | h | h | h; omega; omega; omega; ((first | omega | (obtain ⟨_, h9, _⟩ := h; rw [hb] at h9; have h8 := of_decide_eq_true h9; omega))))], hK0⟩
  refine V_seq <| Vn [1, 2, 26, 42] <| Vi (kk = 3) (fun hc146 => ?_) (fun hc146 => ?_)
  ·
   refine Vsk <| Vi (kk = 3) (fun hc147 => ?_) (fun hc147 => ?_)
   ·
    exact Vr <| On 1 [45] <| Lr 2 (nt m0) hb1 <| Kq (r7In_spec m0 0 11 _) <| Oen [4] <| V_ret <| X_ret_block <| X_ret_then <| Xr (.bool (decide ((0 : Int) ≤ m0 ∧ m0 ≤ 11))) ⟨by congr 2; rw [Bool.eq_iff_iff, decide_eq_true_eq, stC_iff]; omega, hK0⟩
   refine Vn [1, 2, 48] <| Vi (kk = 5) (fun hc151 => ?_) (fun hc151 => ?_)
   ·
    refine V_seq <| Vr <| On 1 [1, 2, 50] <| Lr 2 (nt m0) hb1 <| On 4 [1, 2, 53] ?_
    by_cases hg152 : m0 = 0
    ·
     refine Oq (u := .bool (!(decide (m0 = 0)))) (v := .bool false) 53 (by first | (rw [decide_eq_true hg152]; done) | (rw [decide_eq_true hg152]; rfl) | simp [hg152] | rfl) <| On 5 [1, 2, 53, 54] <| Lr 3 (.slice A kl.length cap) hb1 <| On 7 [1, 2, 53, 56] <| Kq (r7In_spec (kl.length : Int) 1 4 _) <| On 11 [1, 2, 60] ?_
     by_cases hg156 : (1 : Int) ≤ (kl.length : Int) ∧ (kl.length : Int) ≤ 4
     ·
      refine Oq (u := .bool (!(decide ((1 : Int) ≤ (kl.length : Int) ∧ (kl.length : Int) ≤ 4)))) (v := .bool false) 60 (by first | (rw [decide_eq_true hg156]; done) | (rw [decide_eq_true hg156]; rfl) | simp [hg156] | rfl) <| Oen [1, 2, 63] <| Vi (dp ≥ 3) (fun hc157 => ?_) (fun hc157 => ?_)
      ·
       exact Vn [4] <| Rt <| X_ret_block <| X_ret_then <| Xr (.bool false) ⟨by rw [show stepC b ok (CA.mk kk to m0 _ cap kl) = false from Bool.eq_false_iff.2 (fun h => by rcases stC_iff.1 h with h | h | h | h; omega; omega; omega; ((first | omega | (obtain ⟨_, h9, _⟩ := h; rw [hb] at h9; have h8 := of_decide_eq_true h9; omega))))], hK0⟩
      refine Vsk <| V_seq <| Vn [1, 2, 5] <| V_block <| Vp [(1, nt dp),(2, pt b1),(5, nt 0)] <| V_loop (fun k wI e => ∃ i : Nat, (k + i = kl.length) ∧ (∀ j x, j < i → kl[j]? = some x → ok x = true) ∧ Keep none_ w1 wI ∧ e = [(1, nt dp),(2, pt b1),(5, nt (i : Int))]) kl.length ⟨0, by omega, fun j x h => absurd h (Nat.not_lt_zero _), Keep.refl _ _, rfl⟩ ?_
      rintro k159 w158 _ ⟨i, hki, hpre, hk160, rfl⟩
      have hsz161 := Keep.size hk160
      replace hb1 := hb1.k0 hk160
      replace hA := ArgT.keep0 hA hk160
      replace hrep := RepL.keep hrep hk160 nk
      replace hK0 := hK0.tn hk160
      have hzhk160 := Keep.size hk160
      refine V_seq <| Vr <| On 2 [1, 2, 5, 64, 65] <| Lr 3 (.slice A kl.length cap) hb1 <| Oen [1, 2, 5, 68] <| Vi ((i : Int) < (kl.length : Int)) (fun hc162 => ?_) (fun hc162 => ?_)
      ·
       refine Vsk <| V_seq <| V_block <| Vr <| On 1 [1, 2, 5, 71] <| Lr 3 (.slice A kl.length cap) hb1 <| On 3 [1, 2, 5, 72, 73] ?_
       obtain ⟨b163, o163, L163, rfl, hat163⟩ := ArgT.open_ hA (by first | omega | (simp only [List.length_map]; omega) | (simp; done) | (simp; omega))
       have hb163lt0 := ArgT.lt hA0 (by first | omega | (simp only [List.length_map]; omega) | (simp; done) | (simp; omega))
       have hb163lt := hat163.blk.lt
       refine Oi (b := b163) (o := o163) (len := kl.length) (cap := cap) (j := i) (some 74) 24 (.tmp 72) (.tmp 73) 26 4 48 .i64 ?_
       obtain ⟨x164, hx165⟩ := exAt (xs := kl) (i := i)
       refine OI_aggR 26 (.tmp 74) (o163 + i * 4) (CA.cells x164) (some 75) (by kernel_rfl) (by kernel_rfl) hat163.blk (m := 4) (by kernel_rfl) (AtR.elem' hat163 _ _ (es_at hx165)) (AtR.len hat163 (es_at hx165)) ?_
       have hw166 : i64.wrap (dp + 1) = dp + 1 := wrp
       refine On 7 [1, 2, 5, 75, 77] <| Oq (u := nt (i64.wrap (dp + 1))) (v := nt (dp + 1)) 77 (by rw [hw166]) <| Ok (kL 65 #[(.tmp 75),(.tmp 77)] #[26, 3]) 65 #[.agg (CA.cells x164).toArray, nt (dp + 1)] (some 78) (hIH (by omega) x164 (List.mem_of_getElem? hx165) _ _ (hrep.2.2 x164 (List.mem_of_getElem? hx165))) ?_
       rintro _ w167 ⟨rfl, hk168⟩
       refine ⟨_, rfl, ?_⟩
       have hsz169 := Keep.size hk168
       replace hK0 := hK0.tn hk168
       replace hk160 := hk160.tn hk168
       refine Oen [1, 2, 5, 79] <| Vb (!(ok x164)) (fun hc170 => ?_) (fun hc170 => ?_)
       ·
        exact Vn [4] <| V_ret <| X_ret_block <| X_ret_then <| X_ret_then <| X_ret_block <| X_ret_then <| X_ret_block <| X_ret_then <| Xr (.bool false) ⟨by rw [show stepC b ok (CA.mk kk to m0 _ cap kl) = false from Bool.eq_false_iff.2 (fun h => by rcases stC_iff.1 h with h | h | h | h; omega; omega; omega; (obtain ⟨_, _, _, _, _, h9⟩ := h; have h8 := List.all_eq_true.1 h9 _ (List.mem_of_getElem? hx165); simp_all))], hK0⟩
       refine V_skip <| X_block <| X_then <| V_region ?_
       have hw171 : i64.wrap ((i : Int) + 1) = ((i + 1 : Nat) : Int) := wrp
       refine On 2 [1, 2, 70] <| Oq (u := nt (i64.wrap ((i : Int) + 1))) (v := nt ((i + 1 : Nat) : Int)) 70 (by rw [hw171]) <| Os 3 [(1, nt dp),(2, pt b1),(5, nt ((i + 1 : Nat) : Int))] <| OI_end rfl ?_
       exact V_again (k159 - 1) (by omega) [(1, nt dp),(2, pt b1),(5, nt ((i + 1 : Nat) : Int))] rfl ⟨i + 1, by omega, (fun j x hj hx => by by_cases e : j = i; subst e; rw [hx165] at hx; cases hx; simpa using hc170; exact hpre j x (by omega) hx), hk160, rfl⟩
      exact V_exit <| X_exit_then <| X_exit_then <| X_exit_here <| X_then <| Vn [4] <| V_ret <| X_ret_block <| X_ret_then <| Xr (.bool true) ⟨by rw [show stepC b ok (CA.mk kk to m0 _ cap kl) = true from stC_iff.2 (.inr (.inr (.inr ⟨by omega, by rw [hb]; exact decide_eq_true (by omega), by omega, by omega, by omega, List.all_eq_true.2 (fun x hx => by obtain ⟨j, hj⟩ := List.mem_iff_getElem?.1 hx; exact hpre j x (by have h9 := (List.getElem?_eq_some_iff.1 hj).1; omega) hj)⟩)))], hK0⟩
     exact Oq (u := .bool (!(decide ((1 : Int) ≤ (kl.length : Int) ∧ (kl.length : Int) ≤ 4)))) (v := .bool true) 60 (by first | (rw [decide_eq_false hg156]; done) | (rw [decide_eq_false hg156]; rfl) | simp [hg156] | rfl) <| Oen [1, 2, 63] <| Vo <| Vn [4] <| Rt <| X_ret_block <| X_ret_then <| Xr (.bool false) ⟨by rw [show stepC b ok (CA.mk kk to m0 _ cap kl) = false from Bool.eq_false_iff.2 (fun h => by rcases stC_iff.1 h with h | h | h | h; omega; omega; omega; ((first | omega | (obtain ⟨_, h9, _⟩ := h; rw [hb] at h9; have h8 := of_decide_eq_true h9; omega))))], hK0⟩
    exact Oq (u := .bool (!(decide (m0 = 0)))) (v := .bool true) 53 (by first | (rw [decide_eq_false hg152]; done) | (rw [decide_eq_false hg152]; rfl) | simp [hg152] | rfl) <| Oen [1, 2, 63] <| Vo <| Vn [4] <| Rt <| X_ret_block <| X_ret_then <| Xr (.bool false) ⟨by rw [show stepC b ok (CA.mk kk to m0 _ cap kl) = false from Bool.eq_false_iff.2 (fun h => by rcases stC_iff.1 h with h | h | h | h; omega; omega; omega; ((first | omega | (obtain ⟨_, h9, _⟩ := h; rw [hb] at h9; have h8 := of_decide_eq_true h9; omega))))], hK0⟩
   exact V_skip <| X_block <| X_then <| Vn [4] <| Rr (.bool false) ⟨by rw [show stepC b ok (CA.mk kk to m0 _ cap kl) = false from Bool.eq_false_iff.2 (fun h => by rcases stC_iff.1 h with h | h | h | h; omega; omega; omega; ((first | omega | (obtain ⟨_, h9, _⟩ := h; rw [hb] at h9; have h8 := of_decide_eq_true h9; omega))))], hK0⟩
  refine V_region <| Oen [1, 2, 26, 42] <| Vi (kk = 4) (fun hc172 => ?_) (fun hc172 => ?_)
  ·
   exact Vr <| On 1 [45] <| Lr 2 (nt m0) hb1 <| Kq (r7In_spec m0 0 11 _) <| Oen [4] <| V_ret <| X_ret_block <| X_ret_then <| Xr (.bool (decide ((0 : Int) ≤ m0 ∧ m0 ≤ 11))) ⟨by congr 2; rw [Bool.eq_iff_iff, decide_eq_true_eq, stC_iff]; omega, hK0⟩
  refine Vn [1, 2, 48] <| Vi (kk = 5) (fun hc176 => ?_) (fun hc176 => ?_)
  ·
   refine V_seq <| Vr <| On 1 [1, 2, 50] <| Lr 2 (nt m0) hb1 <| On 4 [1, 2, 53] ?_
   by_cases hg177 : m0 = 0
   ·
    refine Oq (u := .bool (!(decide (m0 = 0)))) (v := .bool false) 53 (by first | (rw [decide_eq_true hg177]; done) | (rw [decide_eq_true hg177]; rfl) | simp [hg177] | rfl) <| On 5 [1, 2, 53, 54] <| Lr 3 (.slice A kl.length cap) hb1 <| On 7 [1, 2, 53, 56] <| Kq (r7In_spec (kl.length : Int) 1 4 _) <| On 11 [1, 2, 60] ?_
    by_cases hg181 : (1 : Int) ≤ (kl.length : Int) ∧ (kl.length : Int) ≤ 4
    ·
     refine Oq (u := .bool (!(decide ((1 : Int) ≤ (kl.length : Int) ∧ (kl.length : Int) ≤ 4)))) (v := .bool false) 60 (by first | (rw [decide_eq_true hg181]; done) | (rw [decide_eq_true hg181]; rfl) | simp [hg181] | rfl) <| Oen [1, 2, 63] <| Vi (dp ≥ 3) (fun hc182 => ?_) (fun hc182 => ?_)
     ·
      exact Vn [4] <| Rt <| X_ret_block <| X_ret_then <| Xr (.bool false) ⟨by rw [show stepC b ok (CA.mk kk to m0 _ cap kl) = false from Bool.eq_false_iff.2 (fun h => by rcases stC_iff.1 h with h | h | h | h; omega; omega; omega; ((first | omega | (obtain ⟨_, h9, _⟩ := h; rw [hb] at h9; have h8 := of_decide_eq_true h9; omega))))], hK0⟩
     refine Vsk <| V_seq <| Vn [1, 2, 5] <| V_block <| Vp [(1, nt dp),(2, pt b1),(5, nt 0)] <| V_loop (fun k wI e => ∃ i : Nat, (k + i = kl.length) ∧ (∀ j x, j < i → kl[j]? = some x → ok x = true) ∧ Keep none_ w1 wI ∧ e = [(1, nt dp),(2, pt b1),(5, nt (i : Int))]) kl.length ⟨0, by omega, fun j x h => absurd h (Nat.not_lt_zero _), Keep.refl _ _, rfl⟩ ?_
     rintro k184 w183 _ ⟨i, hki, hpre, hk185, rfl⟩
     have hsz186 := Keep.size hk185
     replace hb1 := hb1.k0 hk185
     replace hA := ArgT.keep0 hA hk185
     replace hrep := RepL.keep hrep hk185 nk
     replace hK0 := hK0.tn hk185
     have hzhk185 := Keep.size hk185
     refine V_seq <| Vr <| On 2 [1, 2, 5, 64, 65] <| Lr 3 (.slice A kl.length cap) hb1 <| Oen [1, 2, 5, 68] <| Vi ((i : Int) < (kl.length : Int)) (fun hc187 => ?_) (fun hc187 => ?_)
     ·
      refine Vsk <| V_seq <| V_block <| Vr <| On 1 [1, 2, 5, 71] <| Lr 3 (.slice A kl.length cap) hb1 <| On 3 [1, 2, 5, 72, 73] ?_
      obtain ⟨b188, o188, L188, rfl, hat188⟩ := ArgT.open_ hA (by first | omega | (simp only [List.length_map]; omega) | (simp; done) | (simp; omega))
      have hb188lt0 := ArgT.lt hA0 (by first | omega | (simp only [List.length_map]; omega) | (simp; done) | (simp; omega))
      have hb188lt := hat188.blk.lt
      refine Oi (b := b188) (o := o188) (len := kl.length) (cap := cap) (j := i) (some 74) 24 (.tmp 72) (.tmp 73) 26 4 48 .i64 ?_
      obtain ⟨x189, hx190⟩ := exAt (xs := kl) (i := i)
      refine OI_aggR 26 (.tmp 74) (o188 + i * 4) (CA.cells x189) (some 75) (by kernel_rfl) (by kernel_rfl) hat188.blk (m := 4) (by kernel_rfl) (AtR.elem' hat188 _ _ (es_at hx190)) (AtR.len hat188 (es_at hx190)) ?_
      have hw191 : i64.wrap (dp + 1) = dp + 1 := wrp
      refine On 7 [1, 2, 5, 75, 77] <| Oq (u := nt (i64.wrap (dp + 1))) (v := nt (dp + 1)) 77 (by rw [hw191]) <| Ok (kL 65 #[(.tmp 75),(.tmp 77)] #[26, 3]) 65 #[.agg (CA.cells x189).toArray, nt (dp + 1)] (some 78) (hIH (by omega) x189 (List.mem_of_getElem? hx190) _ _ (hrep.2.2 x189 (List.mem_of_getElem? hx190))) ?_
      rintro _ w192 ⟨rfl, hk193⟩
      refine ⟨_, rfl, ?_⟩
      have hsz194 := Keep.size hk193
      replace hK0 := hK0.tn hk193
      replace hk185 := hk185.tn hk193
      refine Oen [1, 2, 5, 79] <| Vb (!(ok x189)) (fun hc195 => ?_) (fun hc195 => ?_)
      ·
       exact Vn [4] <| V_ret <| X_ret_block <| X_ret_then <| X_ret_then <| X_ret_block <| X_ret_then <| X_ret_block <| X_ret_then <| Xr (.bool false) ⟨by rw [show stepC b ok (CA.mk kk to m0 _ cap kl) = false from Bool.eq_false_iff.2 (fun h => by rcases stC_iff.1 h with h | h | h | h; omega; omega; omega; (obtain ⟨_, _, _, _, _, h9⟩ := h; have h8 := List.all_eq_true.1 h9 _ (List.mem_of_getElem? hx190); simp_all))], hK0⟩
      refine V_skip <| X_block <| X_then <| V_region ?_
      have hw196 : i64.wrap ((i : Int) + 1) = ((i + 1 : Nat) : Int) := wrp
      refine On 2 [1, 2, 70] <| Oq (u := nt (i64.wrap ((i : Int) + 1))) (v := nt ((i + 1 : Nat) : Int)) 70 (by rw [hw196]) <| Os 3 [(1, nt dp),(2, pt b1),(5, nt ((i + 1 : Nat) : Int))] <| OI_end rfl ?_
      exact V_again (k184 - 1) (by omega) [(1, nt dp),(2, pt b1),(5, nt ((i + 1 : Nat) : Int))] rfl ⟨i + 1, by omega, (fun j x hj hx => by by_cases e : j = i; subst e; rw [hx190] at hx; cases hx; simpa using hc195; exact hpre j x (by omega) hx), hk185, rfl⟩
     exact V_exit <| X_exit_then <| X_exit_then <| X_exit_here <| X_then <| Vn [4] <| V_ret <| X_ret_block <| X_ret_then <| Xr (.bool true) ⟨by rw [show stepC b ok (CA.mk kk to m0 _ cap kl) = true from stC_iff.2 (.inr (.inr (.inr ⟨by omega, by rw [hb]; exact decide_eq_true (by omega), by omega, by omega, by omega, List.all_eq_true.2 (fun x hx => by obtain ⟨j, hj⟩ := List.mem_iff_getElem?.1 hx; exact hpre j x (by have h9 := (List.getElem?_eq_some_iff.1 hj).1; omega) hj)⟩)))], hK0⟩
    exact Oq (u := .bool (!(decide ((1 : Int) ≤ (kl.length : Int) ∧ (kl.length : Int) ≤ 4)))) (v := .bool true) 60 (by first | (rw [decide_eq_false hg181]; done) | (rw [decide_eq_false hg181]; rfl) | simp [hg181] | rfl) <| Oen [1, 2, 63] <| Vo <| Vn [4] <| Rt <| X_ret_block <| X_ret_then <| Xr (.bool false) ⟨by rw [show stepC b ok (CA.mk kk to m0 _ cap kl) = false from Bool.eq_false_iff.2 (fun h => by rcases stC_iff.1 h with h | h | h | h; omega; omega; omega; ((first | omega | (obtain ⟨_, h9, _⟩ := h; rw [hb] at h9; have h8 := of_decide_eq_true h9; omega))))], hK0⟩
   exact Oq (u := .bool (!(decide (m0 = 0)))) (v := .bool true) 53 (by first | (rw [decide_eq_false hg177]; done) | (rw [decide_eq_false hg177]; rfl) | simp [hg177] | rfl) <| Oen [1, 2, 63] <| Vo <| Vn [4] <| Rt <| X_ret_block <| X_ret_then <| Xr (.bool false) ⟨by rw [show stepC b ok (CA.mk kk to m0 _ cap kl) = false from Bool.eq_false_iff.2 (fun h => by rcases stC_iff.1 h with h | h | h | h; omega; omega; omega; ((first | omega | (obtain ⟨_, h9, _⟩ := h; rw [hb] at h9; have h8 := of_decide_eq_true h9; omega))))], hK0⟩
  exact V_skip <| X_block <| X_then <| Vn [4] <| Rr (.bool false) ⟨by rw [show stepC b ok (CA.mk kk to m0 _ cap kl) = false from Bool.eq_false_iff.2 (fun h => by rcases stC_iff.1 h with h | h | h | h; omega; omega; omega; ((first | omega | (obtain ⟨_, h9, _⟩ := h; rw [hb] at h9; have h8 := of_decide_eq_true h9; omega))))], hK0⟩
 refine Oq (u := .bool (!(decide (kk = 2)))) (v := .bool true) 19 (by first | (rw [decide_eq_false hg133]; done) | (rw [decide_eq_false hg133]; rfl) | simp [hg133] | rfl) <| On 15 [1, 2, 15, 19, 20] <| Lr 1 (nt to) hb1 <| Oen [1, 2, 24] <| V_not (to = 0) (by kernel_rfl) (fun hc197 => ?_) (fun hc197 => ?_)
 ·
  exact Vn [4] <| Rt <| Xr (.bool false) ⟨by rw [show stepC b ok (CA.mk kk to m0 _ cap kl) = false from Bool.eq_false_iff.2 (fun h => by rcases stC_iff.1 h with h | h | h | h; omega; omega; omega; ((first | omega | (obtain ⟨_, h9, _⟩ := h; rw [hb] at h9; have h8 := of_decide_eq_true h9; omega))))], hK0⟩
 refine Vsk <| V_seq <| Vr <| On 1 [1, 2, 25] <| Lr 0 (nt kk) hb1 <| Oe <| V_block <| Vn [1, 2, 26, 27] <| Vi (kk = 1) (fun hc198 => ?_) (fun hc198 => ?_)
 ·
  exact Vr <| On 1 [29] <| Lr 2 (nt m0) hb1 <| Kq (r7In_spec m0 0 1073741824 _) <| Oen [4] <| V_ret <| X_ret_block <| X_ret_then <| Xr (.bool (decide ((0 : Int) ≤ m0 ∧ m0 ≤ 1073741824))) ⟨by congr 2; rw [Bool.eq_iff_iff, decide_eq_true_eq, stC_iff]; omega, hK0⟩
 refine Vn [1, 2, 26, 32] <| Vi (kk = 2) (fun hc202 => ?_) (fun hc202 => ?_)
 ·
  refine Vr <| On 1 [2, 34] <| Lr 1 (nt to) hb1 <| Kq (r7In_spec to 0 9 _) <| On 4 [2, 37] ?_
  by_cases hg206 : (0 : Int) ≤ to ∧ to ≤ 9
  ·
   exact Oq (u := .bool (decide ((0 : Int) ≤ to ∧ to ≤ 9))) (v := .bool true) 37 (by first | (rw [decide_eq_true hg206]; done) | (rw [decide_eq_true hg206]; rfl) | simp [hg206] | rfl) <| On 5 [37, 38] <| Lr 2 (nt m0) hb1 <| Kq (r7In_spec m0 0 1073741824 _) <| Oen [4] <| V_ret <| X_ret_block <| X_ret_then <| Xr (.bool (decide ((0 : Int) ≤ m0 ∧ m0 ≤ 1073741824))) ⟨by congr 2; rw [Bool.eq_iff_iff, decide_eq_true_eq, stC_iff]; omega, hK0⟩
  exact Oq (u := .bool (decide ((0 : Int) ≤ to ∧ to ≤ 9))) (v := .bool false) 37 (by first | (rw [decide_eq_false hg206]; done) | (rw [decide_eq_false hg206]; rfl) | simp [hg206] | rfl) <| Oen [4] <| V_ret <| X_ret_block <| X_ret_then <| Xr (.bool false) ⟨by rw [show stepC b ok (CA.mk kk to m0 _ cap kl) = false from Bool.eq_false_iff.2 (fun h => by rcases stC_iff.1 h with h | h | h | h; omega; omega; omega; ((first | omega | (obtain ⟨_, h9, _⟩ := h; rw [hb] at h9; have h8 := of_decide_eq_true h9; omega))))], hK0⟩
 refine V_seq <| Vn [1, 2, 26, 42] <| Vi (kk = 3) (fun hc210 => ?_) (fun hc210 => ?_)
 ·
  refine Vsk <| Vi (kk = 3) (fun hc211 => ?_) (fun hc211 => ?_)
  ·
   exact Vr <| On 1 [45] <| Lr 2 (nt m0) hb1 <| Kq (r7In_spec m0 0 11 _) <| Oen [4] <| V_ret <| X_ret_block <| X_ret_then <| Xr (.bool (decide ((0 : Int) ≤ m0 ∧ m0 ≤ 11))) ⟨by congr 2; rw [Bool.eq_iff_iff, decide_eq_true_eq, stC_iff]; omega, hK0⟩
  refine Vn [1, 2, 48] <| Vi (kk = 5) (fun hc215 => ?_) (fun hc215 => ?_)
  ·
   refine V_seq <| Vr <| On 1 [1, 2, 50] <| Lr 2 (nt m0) hb1 <| On 4 [1, 2, 53] ?_
   by_cases hg216 : m0 = 0
   ·
    refine Oq (u := .bool (!(decide (m0 = 0)))) (v := .bool false) 53 (by first | (rw [decide_eq_true hg216]; done) | (rw [decide_eq_true hg216]; rfl) | simp [hg216] | rfl) <| On 5 [1, 2, 53, 54] <| Lr 3 (.slice A kl.length cap) hb1 <| On 7 [1, 2, 53, 56] <| Kq (r7In_spec (kl.length : Int) 1 4 _) <| On 11 [1, 2, 60] ?_
    by_cases hg220 : (1 : Int) ≤ (kl.length : Int) ∧ (kl.length : Int) ≤ 4
    ·
     refine Oq (u := .bool (!(decide ((1 : Int) ≤ (kl.length : Int) ∧ (kl.length : Int) ≤ 4)))) (v := .bool false) 60 (by first | (rw [decide_eq_true hg220]; done) | (rw [decide_eq_true hg220]; rfl) | simp [hg220] | rfl) <| Oen [1, 2, 63] <| Vi (dp ≥ 3) (fun hc221 => ?_) (fun hc221 => ?_)
     ·
      exact Vn [4] <| Rt <| X_ret_block <| X_ret_then <| Xr (.bool false) ⟨by rw [show stepC b ok (CA.mk kk to m0 _ cap kl) = false from Bool.eq_false_iff.2 (fun h => by rcases stC_iff.1 h with h | h | h | h; omega; omega; omega; ((first | omega | (obtain ⟨_, h9, _⟩ := h; rw [hb] at h9; have h8 := of_decide_eq_true h9; omega))))], hK0⟩
     refine Vsk <| V_seq <| Vn [1, 2, 5] <| V_block <| Vp [(1, nt dp),(2, pt b1),(5, nt 0)] <| V_loop (fun k wI e => ∃ i : Nat, (k + i = kl.length) ∧ (∀ j x, j < i → kl[j]? = some x → ok x = true) ∧ Keep none_ w1 wI ∧ e = [(1, nt dp),(2, pt b1),(5, nt (i : Int))]) kl.length ⟨0, by omega, fun j x h => absurd h (Nat.not_lt_zero _), Keep.refl _ _, rfl⟩ ?_
     rintro k223 w222 _ ⟨i, hki, hpre, hk224, rfl⟩
     have hsz225 := Keep.size hk224
     replace hb1 := hb1.k0 hk224
     replace hA := ArgT.keep0 hA hk224
     replace hrep := RepL.keep hrep hk224 nk
     replace hK0 := hK0.tn hk224
     have hzhk224 := Keep.size hk224
     refine V_seq <| Vr <| On 2 [1, 2, 5, 64, 65] <| Lr 3 (.slice A kl.length cap) hb1 <| Oen [1, 2, 5, 68] <| Vi ((i : Int) < (kl.length : Int)) (fun hc226 => ?_) (fun hc226 => ?_)
     ·
      refine Vsk <| V_seq <| V_block <| Vr <| On 1 [1, 2, 5, 71] <| Lr 3 (.slice A kl.length cap) hb1 <| On 3 [1, 2, 5, 72, 73] ?_
      obtain ⟨b227, o227, L227, rfl, hat227⟩ := ArgT.open_ hA (by first | omega | (simp only [List.length_map]; omega) | (simp; done) | (simp; omega))
      have hb227lt0 := ArgT.lt hA0 (by first | omega | (simp only [List.length_map]; omega) | (simp; done) | (simp; omega))
      have hb227lt := hat227.blk.lt
      refine Oi (b := b227) (o := o227) (len := kl.length) (cap := cap) (j := i) (some 74) 24 (.tmp 72) (.tmp 73) 26 4 48 .i64 ?_
      obtain ⟨x228, hx229⟩ := exAt (xs := kl) (i := i)
      refine OI_aggR 26 (.tmp 74) (o227 + i * 4) (CA.cells x228) (some 75) (by kernel_rfl) (by kernel_rfl) hat227.blk (m := 4) (by kernel_rfl) (AtR.elem' hat227 _ _ (es_at hx229)) (AtR.len hat227 (es_at hx229)) ?_
      have hw230 : i64.wrap (dp + 1) = dp + 1 := wrp
      refine On 7 [1, 2, 5, 75, 77] <| Oq (u := nt (i64.wrap (dp + 1))) (v := nt (dp + 1)) 77 (by rw [hw230]) <| Ok (kL 65 #[(.tmp 75),(.tmp 77)] #[26, 3]) 65 #[.agg (CA.cells x228).toArray, nt (dp + 1)] (some 78) (hIH (by omega) x228 (List.mem_of_getElem? hx229) _ _ (hrep.2.2 x228 (List.mem_of_getElem? hx229))) ?_
      rintro _ w231 ⟨rfl, hk232⟩
      refine ⟨_, rfl, ?_⟩
      have hsz233 := Keep.size hk232
      replace hK0 := hK0.tn hk232
      replace hk224 := hk224.tn hk232
      refine Oen [1, 2, 5, 79] <| Vb (!(ok x228)) (fun hc234 => ?_) (fun hc234 => ?_)
      ·
       exact Vn [4] <| V_ret <| X_ret_block <| X_ret_then <| X_ret_then <| X_ret_block <| X_ret_then <| X_ret_block <| X_ret_then <| Xr (.bool false) ⟨by rw [show stepC b ok (CA.mk kk to m0 _ cap kl) = false from Bool.eq_false_iff.2 (fun h => by rcases stC_iff.1 h with h | h | h | h; omega; omega; omega; (obtain ⟨_, _, _, _, _, h9⟩ := h; have h8 := List.all_eq_true.1 h9 _ (List.mem_of_getElem? hx229); simp_all))], hK0⟩
      refine V_skip <| X_block <| X_then <| V_region ?_
      have hw235 : i64.wrap ((i : Int) + 1) = ((i + 1 : Nat) : Int) := wrp
      refine On 2 [1, 2, 70] <| Oq (u := nt (i64.wrap ((i : Int) + 1))) (v := nt ((i + 1 : Nat) : Int)) 70 (by rw [hw235]) <| Os 3 [(1, nt dp),(2, pt b1),(5, nt ((i + 1 : Nat) : Int))] <| OI_end rfl ?_
      exact V_again (k223 - 1) (by omega) [(1, nt dp),(2, pt b1),(5, nt ((i + 1 : Nat) : Int))] rfl ⟨i + 1, by omega, (fun j x hj hx => by by_cases e : j = i; subst e; rw [hx229] at hx; cases hx; simpa using hc234; exact hpre j x (by omega) hx), hk224, rfl⟩
     exact V_exit <| X_exit_then <| X_exit_then <| X_exit_here <| X_then <| Vn [4] <| V_ret <| X_ret_block <| X_ret_then <| Xr (.bool true) ⟨by rw [show stepC b ok (CA.mk kk to m0 _ cap kl) = true from stC_iff.2 (.inr (.inr (.inr ⟨by omega, by rw [hb]; exact decide_eq_true (by omega), by omega, by omega, by omega, List.all_eq_true.2 (fun x hx => by obtain ⟨j, hj⟩ := List.mem_iff_getElem?.1 hx; exact hpre j x (by have h9 := (List.getElem?_eq_some_iff.1 hj).1; omega) hj)⟩)))], hK0⟩
    exact Oq (u := .bool (!(decide ((1 : Int) ≤ (kl.length : Int) ∧ (kl.length : Int) ≤ 4)))) (v := .bool true) 60 (by first | (rw [decide_eq_false hg220]; done) | (rw [decide_eq_false hg220]; rfl) | simp [hg220] | rfl) <| Oen [1, 2, 63] <| Vo <| Vn [4] <| Rt <| X_ret_block <| X_ret_then <| Xr (.bool false) ⟨by rw [show stepC b ok (CA.mk kk to m0 _ cap kl) = false from Bool.eq_false_iff.2 (fun h => by rcases stC_iff.1 h with h | h | h | h; omega; omega; omega; ((first | omega | (obtain ⟨_, h9, _⟩ := h; rw [hb] at h9; have h8 := of_decide_eq_true h9; omega))))], hK0⟩
   exact Oq (u := .bool (!(decide (m0 = 0)))) (v := .bool true) 53 (by first | (rw [decide_eq_false hg216]; done) | (rw [decide_eq_false hg216]; rfl) | simp [hg216] | rfl) <| Oen [1, 2, 63] <| Vo <| Vn [4] <| Rt <| X_ret_block <| X_ret_then <| Xr (.bool false) ⟨by rw [show stepC b ok (CA.mk kk to m0 _ cap kl) = false from Bool.eq_false_iff.2 (fun h => by rcases stC_iff.1 h with h | h | h | h; omega; omega; omega; ((first | omega | (obtain ⟨_, h9, _⟩ := h; rw [hb] at h9; have h8 := of_decide_eq_true h9; omega))))], hK0⟩
  exact V_skip <| X_block <| X_then <| Vn [4] <| Rr (.bool false) ⟨by rw [show stepC b ok (CA.mk kk to m0 _ cap kl) = false from Bool.eq_false_iff.2 (fun h => by rcases stC_iff.1 h with h | h | h | h; omega; omega; omega; ((first | omega | (obtain ⟨_, h9, _⟩ := h; rw [hb] at h9; have h8 := of_decide_eq_true h9; omega))))], hK0⟩
 refine V_region <| Oen [1, 2, 26, 42] <| Vi (kk = 4) (fun hc236 => ?_) (fun hc236 => ?_)
 ·
  exact Vr <| On 1 [45] <| Lr 2 (nt m0) hb1 <| Kq (r7In_spec m0 0 11 _) <| Oen [4] <| V_ret <| X_ret_block <| X_ret_then <| Xr (.bool (decide ((0 : Int) ≤ m0 ∧ m0 ≤ 11))) ⟨by congr 2; rw [Bool.eq_iff_iff, decide_eq_true_eq, stC_iff]; omega, hK0⟩
 refine Vn [1, 2, 48] <| Vi (kk = 5) (fun hc240 => ?_) (fun hc240 => ?_)
 ·
  refine V_seq <| Vr <| On 1 [1, 2, 50] <| Lr 2 (nt m0) hb1 <| On 4 [1, 2, 53] ?_
  by_cases hg241 : m0 = 0
  ·
   refine Oq (u := .bool (!(decide (m0 = 0)))) (v := .bool false) 53 (by first | (rw [decide_eq_true hg241]; done) | (rw [decide_eq_true hg241]; rfl) | simp [hg241] | rfl) <| On 5 [1, 2, 53, 54] <| Lr 3 (.slice A kl.length cap) hb1 <| On 7 [1, 2, 53, 56] <| Kq (r7In_spec (kl.length : Int) 1 4 _) <| On 11 [1, 2, 60] ?_
   by_cases hg245 : (1 : Int) ≤ (kl.length : Int) ∧ (kl.length : Int) ≤ 4
   ·
    refine Oq (u := .bool (!(decide ((1 : Int) ≤ (kl.length : Int) ∧ (kl.length : Int) ≤ 4)))) (v := .bool false) 60 (by first | (rw [decide_eq_true hg245]; done) | (rw [decide_eq_true hg245]; rfl) | simp [hg245] | rfl) <| Oen [1, 2, 63] <| Vi (dp ≥ 3) (fun hc246 => ?_) (fun hc246 => ?_)
    ·
     exact Vn [4] <| Rt <| X_ret_block <| X_ret_then <| Xr (.bool false) ⟨by rw [show stepC b ok (CA.mk kk to m0 _ cap kl) = false from Bool.eq_false_iff.2 (fun h => by rcases stC_iff.1 h with h | h | h | h; omega; omega; omega; ((first | omega | (obtain ⟨_, h9, _⟩ := h; rw [hb] at h9; have h8 := of_decide_eq_true h9; omega))))], hK0⟩
    refine Vsk <| V_seq <| Vn [1, 2, 5] <| V_block <| Vp [(1, nt dp),(2, pt b1),(5, nt 0)] <| V_loop (fun k wI e => ∃ i : Nat, (k + i = kl.length) ∧ (∀ j x, j < i → kl[j]? = some x → ok x = true) ∧ Keep none_ w1 wI ∧ e = [(1, nt dp),(2, pt b1),(5, nt (i : Int))]) kl.length ⟨0, by omega, fun j x h => absurd h (Nat.not_lt_zero _), Keep.refl _ _, rfl⟩ ?_
    rintro k248 w247 _ ⟨i, hki, hpre, hk249, rfl⟩
    have hsz250 := Keep.size hk249
    replace hb1 := hb1.k0 hk249
    replace hA := ArgT.keep0 hA hk249
    replace hrep := RepL.keep hrep hk249 nk
    replace hK0 := hK0.tn hk249
    have hzhk249 := Keep.size hk249
    refine V_seq <| Vr <| On 2 [1, 2, 5, 64, 65] <| Lr 3 (.slice A kl.length cap) hb1 <| Oen [1, 2, 5, 68] <| Vi ((i : Int) < (kl.length : Int)) (fun hc251 => ?_) (fun hc251 => ?_)
    ·
     refine Vsk <| V_seq <| V_block <| Vr <| On 1 [1, 2, 5, 71] <| Lr 3 (.slice A kl.length cap) hb1 <| On 3 [1, 2, 5, 72, 73] ?_
     obtain ⟨b252, o252, L252, rfl, hat252⟩ := ArgT.open_ hA (by first | omega | (simp only [List.length_map]; omega) | (simp; done) | (simp; omega))
     have hb252lt0 := ArgT.lt hA0 (by first | omega | (simp only [List.length_map]; omega) | (simp; done) | (simp; omega))
     have hb252lt := hat252.blk.lt
     refine Oi (b := b252) (o := o252) (len := kl.length) (cap := cap) (j := i) (some 74) 24 (.tmp 72) (.tmp 73) 26 4 48 .i64 ?_
     obtain ⟨x253, hx254⟩ := exAt (xs := kl) (i := i)
     refine OI_aggR 26 (.tmp 74) (o252 + i * 4) (CA.cells x253) (some 75) (by kernel_rfl) (by kernel_rfl) hat252.blk (m := 4) (by kernel_rfl) (AtR.elem' hat252 _ _ (es_at hx254)) (AtR.len hat252 (es_at hx254)) ?_
     have hw255 : i64.wrap (dp + 1) = dp + 1 := wrp
     refine On 7 [1, 2, 5, 75, 77] <| Oq (u := nt (i64.wrap (dp + 1))) (v := nt (dp + 1)) 77 (by rw [hw255]) <| Ok (kL 65 #[(.tmp 75),(.tmp 77)] #[26, 3]) 65 #[.agg (CA.cells x253).toArray, nt (dp + 1)] (some 78) (hIH (by omega) x253 (List.mem_of_getElem? hx254) _ _ (hrep.2.2 x253 (List.mem_of_getElem? hx254))) ?_
     rintro _ w256 ⟨rfl, hk257⟩
     refine ⟨_, rfl, ?_⟩
     have hsz258 := Keep.size hk257
     replace hK0 := hK0.tn hk257
     replace hk249 := hk249.tn hk257
     refine Oen [1, 2, 5, 79] <| Vb (!(ok x253)) (fun hc259 => ?_) (fun hc259 => ?_)
     ·
      exact Vn [4] <| V_ret <| X_ret_block <| X_ret_then <| X_ret_then <| X_ret_block <| X_ret_then <| X_ret_block <| X_ret_then <| Xr (.bool false) ⟨by rw [show stepC b ok (CA.mk kk to m0 _ cap kl) = false from Bool.eq_false_iff.2 (fun h => by rcases stC_iff.1 h with h | h | h | h; omega; omega; omega; (obtain ⟨_, _, _, _, _, h9⟩ := h; have h8 := List.all_eq_true.1 h9 _ (List.mem_of_getElem? hx254); simp_all))], hK0⟩
     refine V_skip <| X_block <| X_then <| V_region ?_
     have hw260 : i64.wrap ((i : Int) + 1) = ((i + 1 : Nat) : Int) := wrp
     refine On 2 [1, 2, 70] <| Oq (u := nt (i64.wrap ((i : Int) + 1))) (v := nt ((i + 1 : Nat) : Int)) 70 (by rw [hw260]) <| Os 3 [(1, nt dp),(2, pt b1),(5, nt ((i + 1 : Nat) : Int))] <| OI_end rfl ?_
     exact V_again (k248 - 1) (by omega) [(1, nt dp),(2, pt b1),(5, nt ((i + 1 : Nat) : Int))] rfl ⟨i + 1, by omega, (fun j x hj hx => by by_cases e : j = i; subst e; rw [hx254] at hx; cases hx; simpa using hc259; exact hpre j x (by omega) hx), hk249, rfl⟩
    exact V_exit <| X_exit_then <| X_exit_then <| X_exit_here <| X_then <| Vn [4] <| V_ret <| X_ret_block <| X_ret_then <| Xr (.bool true) ⟨by rw [show stepC b ok (CA.mk kk to m0 _ cap kl) = true from stC_iff.2 (.inr (.inr (.inr ⟨by omega, by rw [hb]; exact decide_eq_true (by omega), by omega, by omega, by omega, List.all_eq_true.2 (fun x hx => by obtain ⟨j, hj⟩ := List.mem_iff_getElem?.1 hx; exact hpre j x (by have h9 := (List.getElem?_eq_some_iff.1 hj).1; omega) hj)⟩)))], hK0⟩
   exact Oq (u := .bool (!(decide ((1 : Int) ≤ (kl.length : Int) ∧ (kl.length : Int) ≤ 4)))) (v := .bool true) 60 (by first | (rw [decide_eq_false hg245]; done) | (rw [decide_eq_false hg245]; rfl) | simp [hg245] | rfl) <| Oen [1, 2, 63] <| Vo <| Vn [4] <| Rt <| X_ret_block <| X_ret_then <| Xr (.bool false) ⟨by rw [show stepC b ok (CA.mk kk to m0 _ cap kl) = false from Bool.eq_false_iff.2 (fun h => by rcases stC_iff.1 h with h | h | h | h; omega; omega; omega; ((first | omega | (obtain ⟨_, h9, _⟩ := h; rw [hb] at h9; have h8 := of_decide_eq_true h9; omega))))], hK0⟩
  exact Oq (u := .bool (!(decide (m0 = 0)))) (v := .bool true) 53 (by first | (rw [decide_eq_false hg241]; done) | (rw [decide_eq_false hg241]; rfl) | simp [hg241] | rfl) <| Oen [1, 2, 63] <| Vo <| Vn [4] <| Rt <| X_ret_block <| X_ret_then <| Xr (.bool false) ⟨by rw [show stepC b ok (CA.mk kk to m0 _ cap kl) = false from Bool.eq_false_iff.2 (fun h => by rcases stC_iff.1 h with h | h | h | h; omega; omega; omega; ((first | omega | (obtain ⟨_, h9, _⟩ := h; rw [hb] at h9; have h8 := of_decide_eq_true h9; omega))))], hK0⟩
 exact V_skip <| X_block <| X_then <| Vn [4] <| Rr (.bool false) ⟨by rw [show stepC b ok (CA.mk kk to m0 _ cap kl) = false from Bool.eq_false_iff.2 (fun h => by rcases stC_iff.1 h with h | h | h | h; omega; omega; omega; ((first | omega | (obtain ⟨_, h9, _⟩ := h; rw [hb] at h9; have h8 := of_decide_eq_true h9; omega))))], hK0⟩
theorem call7_spec : ∀ (f : Nat) (dp : Int), dp = 3 - (f : Int) → f ≤ 3 → ∀ (c : CA), CAok c → ∀ (D : Nat → Prop) (w : World), RepIn D w c → Calls Tryz.prog 65 #[.agg c.cells.toArray, nt dp] w fun e w' => e = .returned (.bool (okCA f c)) ∧ Keep none_ w w'
  | 0, dp, h, hf, .mk k to m0 A cap kl, hok, D, w, hr => call7_step D false (fun _ => false) dp k to m0 A cap kl w (by rw [decide_eq_false (by omega)]) (by omega) (fun h9 => by omega) (by have h9 := hok.l.1; unfold maxLen at h9; have h8 : kl.length ≤ 2 ^ 63 - 1 := h9; omega) hr.l
  | f + 1, dp, h, hf, .mk k to m0 A cap kl, hok, D, w, hr => call7_step D true (okCA f) dp k to m0 A cap kl w (by rw [decide_eq_true (by omega)]) (by omega) (fun _ x hx D' w' h' => call7_spec f (dp + 1) (by omega) (by omega) x (hok.l.2 x hx) D' w' h') (by have h9 := hok.l.1; unfold maxLen at h9; have h8 : kl.length ≤ 2 ^ 63 - 1 := h9; omega) hr.l
theorem isC7_spec (D : Nat → Prop) (c : CA) (w : World) (hok : CAok c) (hrep : RepIn D w c) : Calls Tryz.prog 31 #[.agg c.cells.toArray] w fun e w' => e = .returned (.bool (okCA 3 c)) ∧ Keep none_ w w' := by
 have hK0 := Keep.refl none_ w
 refine eV ?_
 refine Vr <| OI_box 26 (.tmp 0) (.agg (CA.cells c).toArray) (CA.cells c) (some 1) (by kernel_rfl) (by kernel_rfl) rfl ?_
 intro b1 w1 e1 hb1 k1 z1
 have hsz2 := Keep.size k1
 replace hrep := RepIn.keep hrep k1 nk
 replace hK0 := hK0.tn k1
 have hb1lt := hb1.lt
 refine On 2 [1] <| Oer <| La 0 (CA.cells c) 4 hb1 (take_all (CA.len _)) (CA.len _) <| Kk (call7_spec 3 0 (by omega) (by omega) c hok D _ hrep) fun w4 hk3 _ => ?_
 replace hK0 := hK0.tn hk3
 exact Oen [2] <| Rr (.bool (okCA 3 c)) ⟨rfl, hK0⟩
end Go.Al
namespace Go.Al
open Go Go.RowKit Go.Proofs
section
variable {id n : Int} {b : Bool} {x l : List (Int × Int)} {i : Nat} {o : Int × Int}
end
def lkc (q : Int × Int) : List Value := [nt q.1, nt q.2]
structure DE where
  f : Int
  h : Int
  A : Option Addr
  cap : Nat
  ls : List (Int × Int)
def DE.cells (d : DE) : List Value := [nt d.f, nt d.h, .slice d.A d.ls.length d.cap]
theorem DE.len (d : DE) : d.cells.length = 3 := rfl
def DE.acc (d : DE) : Acc := ⟨d.f, d.h⟩
def DAll (F : Nat → Prop) (w : World) (x : Nat) (A : Option Addr) (ds : List DE) (cs : List Ci) : Prop := ∀ (j : Nat) (d : DE), ds[j]? = some d → d.ls = rowL (j : Int) cs ∧ SlT w 2 lkc d.A d.cap d.ls ∧ ∀ q, inA d.A q → F q ∧ q ≠ x ∧ ¬ inA A q
structure DlX (F : Nat → Prop) (w : World) (x : Nat) (A : Option Addr) (cap : Nat) (ds : List DE) (xs : List Acc) (cs : List Ci) : Prop where
  blk : Blk w x [.slice A ds.length cap] 111
  sl : SlT w 3 DE.cells A cap ds
  own : ∀ q, inA A q → F q ∧ q ≠ x
  acc : ds.map DE.acc = xs
  all : DAll F w x A ds cs
def OkC (cs : List Ci) : Prop := cs.length ≤ 90000 ∧ Srt cs ∧ ∀ c ∈ cs, isA c.a = true
def DLd (F : Nat → Prop) (w : World) (x : Nat) (xs : List Acc) (cs : List Ci) : Prop := Inv xs ∧ OkC cs ∧ F x ∧ (∀ q, F q → q < w.heap.size) ∧ ∃ A cap ds, DlX F w x A cap ds xs cs
section
variable {F S : Nat → Prop} {w w' : World} {x cap cap' : Nat} {A A' : Option Addr} {ds ds' : List DE} {xs xs' : List Acc} {cs cs' : List Ci} {j : Nat} {d : DE}
theorem DLd.lt (h : DLd F w x xs cs) : ∀ q, F q → q < w.heap.size := h.2.2.2.1
theorem DLd.at_ (h : DLd F w x xs cs) : F x := h.2.2.1
theorem DLd.inv (h : DLd F w x xs cs) : Inv xs := h.1
theorem DLd.okc (h : DLd F w x xs cs) : OkC cs := h.2.1
theorem DAll.keep (h : DAll F w x A ds cs) (k : Keep S w w') (hS : ∀ q, F q → q ≠ x → ¬ inA A q → ¬ S q) : DAll F w' x A ds cs := fun j d hd => by
  obtain ⟨h1, h2, h3⟩ := h j d hd
  exact ⟨h1, h2.keep k (fun q hq => hS q (h3 q hq).1 (h3 q hq).2.1 (h3 q hq).2.2), h3⟩
theorem DLd.keep (h : DLd F w x xs cs) (k : Keep S w w') (hS : ∀ q, F q → ¬ S q) : DLd F w' x xs cs := by
  obtain ⟨h0, h1, h2, h3, A, cap, ds, h4, h5, h6, h7, h8⟩ := h
  exact ⟨h0, h1, h2, fun q hq => Nat.lt_of_lt_of_le (h3 q hq) k.size, A, cap, ds, h4.keep k (hS _ h2), h5.keep k (fun q hq => hS q (h6 q hq).1), h6, h7, h8.keep k (fun q hq _ _ => hS q hq)⟩
theorem DLd.quiet {N : Nat} (h : DLd F w x xs cs) (k : Keep (lb N w) w w') : DLd F w' x xs cs := by
  obtain ⟨h0, h1, h2, h3, A, cap, ds, h4, h5, h6, h7, h8⟩ := h
  exact ⟨h0, h1, h2, fun q hq => Nat.lt_of_lt_of_le (h3 q hq) k.size, A, cap, ds, h4.quiet k, h5.quiet k, h6, h7, fun j d hd => ⟨(h8 j d hd).1, (h8 j d hd).2.1.quiet k, (h8 j d hd).2.2⟩⟩
theorem DLd.mono {F' : Nat → Prop} (h : DLd F w x xs cs) (hF : ∀ q, F q → F' q) (hlt : ∀ q, F' q → q < w.heap.size) : DLd F' w x xs cs := by
  obtain ⟨h0, h1, h2, h3, A, cap, ds, h4, h5, h6, h7, h8⟩ := h
  exact ⟨h0, h1, hF _ h2, hlt, A, cap, ds, h4, h5, fun q hq => ⟨hF q (h6 q hq).1, (h6 q hq).2⟩, h7, fun j d hd => ⟨(h8 j d hd).1, (h8 j d hd).2.1, fun q hq => ⟨hF q ((h8 j d hd).2.2 q hq).1, ((h8 j d hd).2.2 q hq).2⟩⟩⟩
theorem isA_no {a : Int} (h : isA a = false) : ¬ (0 ≤ a ∧ a < 10) := by simpa [isA] using h
theorem de_acct (h : ds.map DE.acc = xs) (hd : ds[j]? = some d) (hj : j < 10) : acct xs (j : Int) = ⟨d.f, d.h⟩ := acct_in (by rw [← h, List.getElem?_map, hd]; rfl) hj
theorem de_at (h : ds.map DE.acc = xs) (hd : ds[j]? = some d) : xs[j]? = some ⟨d.f, d.h⟩ := by rw [← h, List.getElem?_map, hd]; rfl
theorem de_len (h : ds.map DE.acc = xs) (hi : Inv xs) : ds.length = 10 := by rw [← hi.1, ← h, List.length_map]
theorem DAll.set (h : DAll F w x A ds cs) (hd : ds[j]? = some d) (f g : Int) : DAll F w x A (ds.set j ⟨f, g, d.A, d.cap, d.ls⟩) cs := fun i e he => by
  by_cases hij : i = j
  · subst hij
    rw [List.getElem?_set_self (List.getElem?_eq_some_iff.1 hd).1] at he
    simp only [Option.some.injEq] at he
    subst he
    exact h i d hd
  · rw [List.getElem?_set_ne (Ne.symm hij)] at he
    exact h i e he
theorem map_set (h : ds.map DE.acc = xs) (f g : Int) (A9 : Option Addr) (c9 : Nat) (l9 : List (Int × Int)) : (ds.set j ⟨f, g, A9, c9, l9⟩).map DE.acc = xs.set j ⟨f, g⟩ := by rw [List.map_set, h]; rfl
end
theorem is6_spec (a : Int) (w : World) : Calls Tryz.prog 55 #[nt a] w fun e w' => e = .returned (.bool (isA a)) ∧ w' = w := by
 refine eV ?_
 refine Vr <| On 1 [0] <| Oer <| On 3 [0, 5] ?_
 by_cases hg1 : a ≥ 0
 ·
  exact Dt 5 hg1 <| Oen [2] <| Rr (.bool (decide (a < 10))) ⟨by congr 2; unfold isA; by_cases h1 : 0 ≤ a <;> simp [h1] <;> omega, rfl⟩
 exact Df 5 hg1 <| Oen [2] <| Rr (.bool false) ⟨by congr 2; unfold isA; by_cases h1 : 0 ≤ a <;> simp [h1] <;> omega, rfl⟩
theorem free6_spec (F : Nat → Prop) (x : Nat) (xs : List Acc) (cs : List Ci) (a : Int) (w : World) (h : DLd F w x xs cs)  : Calls Tryz.prog 35 #[pt x, nt a] w fun e w' => e = .returned (nt (acct xs a).free) ∧ Keep none_ w w' := by
 obtain ⟨hinv, hcl, hFx, hFlt, A, cap, ds, hdx⟩ := h
 have hx := hdx.blk
 have hA := hdx.sl
 have hxlt := hx.lt
 have hacc := hdx.acc
 have hall := hdx.all
 have hAx : ∀ q, inA A q → q ≠ x := fun q hq => (hdx.own q hq).2
 have hAlt := SlT.lt hA
 have hdl := de_len hacc hinv
 have hcl1 := hcl.1
 have hF0 : ∀ q, F q → F q ∨ w.heap.size ≤ q := fun _ h => .inl h
 have hK0 := Keep.refl none_ w
 refine eV ?_
 refine Vr <| On 1 [0, 1] <| Oe <| V_seq <| Vr <| On 1 [0, 1, 5] <| Kq (is6_spec a _) <| Oen [0, 1, 7] <| Vb (!(isA a)) (fun hc4 => ?_) (fun hc4 => ?_)
 ·
  exact Vn [4] <| Rt <| Xr (nt 0) ⟨by rw [acct_out (isA_no (by simpa using hc4))], hK0⟩
 have hiaa : isA a = true := by simpa using hc4
 obtain ⟨j5, hj5, hjl5⟩ : ∃ j : Nat, a = j ∧ j < 10 := ⟨(a).toNat, by have h9 := hiaa; simp only [isA, decide_eq_true_eq] at h9; omega, by have h9 := hiaa; simp only [isA, decide_eq_true_eq] at h9; omega⟩
 refine Vsk <| Vr <| On 3 [1, 10] <| Lr 0 (.slice A ds.length cap) hx <| On 5 [11, 12] ?_
 obtain ⟨b6, o6, L6, T6, rfl, hat6⟩ := SlT.opn hA
 have hb6lt := hat6.blk.lt
 have hob7 := hAx b6 ⟨_, rfl, rfl⟩
 have hob8 := hAlt b6 ⟨_, rfl, rfl⟩
 refine Op_ [(11, sl_ b6 o6 ds.length cap),(12, nt a)] <| Oq (u := nt a) (v := nt (j5 : Int)) 12 (by rw [hj5]) <| Oi (b := b6) (o := o6) (len := ds.length) (cap := cap) (j := j5) (some 13) 109 (.tmp 11) (.tmp 12) 114 3 40 .i64 <| On 7 [14] ?_
 obtain ⟨x9, hx10⟩ := exAt (xs := ds) (i := j5)
 exact Lc (o6 + j5 * 3) (nt x9.f) hat6.blk (At.cell0 hat6 (es_at hx10) rfl) <| Oen [4] <| Rr (nt x9.f) ⟨by rw [hj5, de_acct hacc hx10 hjl5], hK0⟩
theorem held6_spec (F : Nat → Prop) (x : Nat) (xs : List Acc) (cs : List Ci) (a : Int) (w : World) (h : DLd F w x xs cs)  : Calls Tryz.prog 37 #[pt x, nt a] w fun e w' => e = .returned (nt (acct xs a).held) ∧ Keep none_ w w' := by
 obtain ⟨hinv, hcl, hFx, hFlt, A, cap, ds, hdx⟩ := h
 have hx := hdx.blk
 have hA := hdx.sl
 have hxlt := hx.lt
 have hacc := hdx.acc
 have hall := hdx.all
 have hAx : ∀ q, inA A q → q ≠ x := fun q hq => (hdx.own q hq).2
 have hAlt := SlT.lt hA
 have hdl := de_len hacc hinv
 have hcl1 := hcl.1
 have hF0 : ∀ q, F q → F q ∨ w.heap.size ≤ q := fun _ h => .inl h
 have hK0 := Keep.refl none_ w
 refine eV ?_
 refine Vr <| On 1 [0, 1] <| Oe <| V_seq <| Vr <| On 1 [0, 1, 5] <| Kq (is6_spec a _) <| Oen [0, 1, 7] <| Vb (!(isA a)) (fun hc4 => ?_) (fun hc4 => ?_)
 ·
  exact Vn [4] <| Rt <| Xr (nt 0) ⟨by rw [acct_out (isA_no (by simpa using hc4))], hK0⟩
 have hiaa : isA a = true := by simpa using hc4
 obtain ⟨j5, hj5, hjl5⟩ : ∃ j : Nat, a = j ∧ j < 10 := ⟨(a).toNat, by have h9 := hiaa; simp only [isA, decide_eq_true_eq] at h9; omega, by have h9 := hiaa; simp only [isA, decide_eq_true_eq] at h9; omega⟩
 refine Vsk <| Vr <| On 3 [1, 10] <| Lr 0 (.slice A ds.length cap) hx <| On 5 [11, 12] ?_
 obtain ⟨b6, o6, L6, T6, rfl, hat6⟩ := SlT.opn hA
 have hb6lt := hat6.blk.lt
 have hob7 := hAx b6 ⟨_, rfl, rfl⟩
 have hob8 := hAlt b6 ⟨_, rfl, rfl⟩
 refine Op_ [(11, sl_ b6 o6 ds.length cap),(12, nt a)] <| Oq (u := nt a) (v := nt (j5 : Int)) 12 (by rw [hj5]) <| Oi (b := b6) (o := o6) (len := ds.length) (cap := cap) (j := j5) (some 13) 109 (.tmp 11) (.tmp 12) 114 3 40 .i64 <| On 7 [14] ?_
 obtain ⟨x9, hx10⟩ := exAt (xs := ds) (i := j5)
 exact Lc (o6 + j5 * 3 + 1) (nt x9.h) hat6.blk (At.cell hat6 (es_at hx10) rfl) <| Oen [4] <| Rr (nt x9.h) ⟨by rw [hj5, de_acct hacc hx10 hjl5], hK0⟩
end Go.Al
namespace Go.Al
open Go Go.RowKit Go.Proofs
theorem take_row {l : List (Int × Int)} {i : Nat} {o : Int × Int} (h : l[i]? = some o) : l.take (i + 1) = l.take i ++ [o] := by
  obtain ⟨h1, h2⟩ := List.getElem?_eq_some_iff.1 h
  rw [List.take_succ_eq_append_getElem h1, h2]
theorem locked6_in (F : Nat → Prop) (x : Nat) (xs : List Acc) (cs : List Ci) (j : Nat) (w : World) (h : DLd F w x xs cs) (hj : j < 10) : Calls Tryz.prog 96 #[pt x, nt (j : Int)] w fun e w' => e = .returned (nt (lockedL cs (j : Int))) ∧ Keep none_ w w' := by
 obtain ⟨hinv, hcl, hFx, hFlt, A, cap, ds, hdx⟩ := h
 have hx := hdx.blk
 have hA := hdx.sl
 have hxlt := hx.lt
 have hacc := hdx.acc
 have hall := hdx.all
 have hAx : ∀ q, inA A q → q ≠ x := fun q hq => (hdx.own q hq).2
 have hAlt := SlT.lt hA
 have hdl := de_len hacc hinv
 have hcl1 := hcl.1
 have hF0 : ∀ q, F q → F q ∨ w.heap.size ≤ q := fun _ h => .inl h
 have hrl : (rowL (j : Int) cs).length ≤ cs.length := by unfold rowL; rw [List.length_map]; exact List.length_filter_le ..
 have hK0 := Keep.refl none_ w
 refine eV ?_
 refine Vr <| On 1 [0, 1] <| Oer <| On 1 [0, 1, 5] <| Oe <| V_seq <| Vn [0, 1, 5, 6] <| V_block <| Vp [(0, pt x),(1, nt (j : Int)),(5, nt 0),(6, nt 0)] <| V_loop (fun k wI e => ∃ i : Nat, ∃ m : Int, (k + i = (rowL (j : Int) cs).length) ∧ (m = lockM ((rowL (j : Int) cs).take i) 0) ∧ Keep none_ w wI ∧ e = [(0, pt x),(1, nt (j : Int)),(5, nt m),(6, nt (i : Int))]) ((rowL (j : Int) cs).length) ⟨0, 0, by omega, rfl, Keep.refl _ _, rfl⟩ ?_
 rintro k2 w1 _ ⟨i, m, hki, hm, hk3, rfl⟩
 have hsz4 := Keep.size hk3
 replace hx := hx.k0 hk3
 replace hA := hA.keep0 hk3
 replace hall := DAll.keep hall hk3 (fun _ _ _ _ f => f)
 replace hK0 := hK0.tn hk3
 have hzhk3 := Keep.size hk3
 refine V_seq <| Vr <| On 1 [0, 1, 5, 6, 7] <| Kq (is6_spec (j : Int) _) <| On 3 [0, 1, 5, 6, 9] <| Oq (u := .bool (isA (j : Int))) (v := .bool true) 9 (by rw [isA_in hj]) <| On 7 [0, 1, 5, 6, 9, 10, 11, 12, 13] <| Lr 0 (.slice A ds.length cap) hx <| On 9 [0, 1, 5, 6, 9, 10, 11, 12, 13, 14, 15] ?_
 obtain ⟨b9, o9, L9, T9, rfl, hat9⟩ := SlT.opn hA
 have hb9lt := hat9.blk.lt
 have hob10 := hAx b9 ⟨_, rfl, rfl⟩
 have hob11 := hAlt b9 ⟨_, rfl, rfl⟩
 refine Oi (b := b9) (o := o9) (len := ds.length) (cap := cap) (j := j) (some 16) 109 (.tmp 14) (.tmp 15) 114 3 40 .i64 <| On 11 [0, 1, 5, 6, 9, 10, 11, 12, 13, 14, 15, 16, 17] ?_
 obtain ⟨x12, hx13⟩ := exAt (xs := ds) (i := j)
 obtain ⟨f14, g14, A14, c14, l14⟩ := x12
 obtain ⟨hls14, hsl14, hso14⟩ := hall j _ hx13
 replace hls14 : l14 = rowL (j : Int) cs := hls14
 replace hsl14 : SlT w1 2 lkc A14 c14 l14 := hsl14
 replace hso14 : ∀ q, inA A14 q → _ := hso14
 obtain ⟨hbf14, hbh14, hbt14, _⟩ := hinv.at_ (de_at hacc hx13)
 replace hbf14 : 0 ≤ f14 := hbf14
 replace hbh14 : 0 ≤ g14 := hbh14
 replace hbt14 : f14 + g14 ≤ 1073741824 := hbt14
 have hsw14 : ∀ q, inA A14 q → q ≠ x ∧ q ≠ b9 ∧ q < w.heap.size := fun q hq => ⟨(hso14 q hq).2.1, fun e => (hso14 q hq).2.2 ⟨_, rfl, e⟩, hFlt q (hso14 q hq).1⟩
 have hsx14 := SlT.lt hsl14
 have hll14 : l14.length = (rowL (j : Int) cs).length := by rw [hls14]
 refine Lc (o9 + j * 3 + 2) (.slice A14 l14.length c14) hat9.blk (At.cell hat9 (es_at hx13) rfl) <| Oen [0, 1, 5, 6, 10, 11, 12, 13, 14, 15, 16, 17, 18, 19, 20, 21] <| Vi ((i : Int) < (l14.length : Int)) (fun hc15 => ?_) (fun hc15 => ?_)
 ·
  refine Vsk <| V_seq <| V_block <| V_region <| On 4 [0, 1, 6, 10, 11, 12, 13, 14, 15, 16, 17, 18, 19, 20, 24, 27] <| Lr 0 (sl_ b9 o9 ds.length cap) hx <| On 6 [0, 1, 6, 10, 11, 12, 13, 14, 15, 16, 17, 18, 19, 20, 24, 28, 29] <| Oi (b := b9) (o := o9) (len := ds.length) (cap := cap) (j := j) (some 30) 109 (.tmp 28) (.tmp 29) 114 3 40 .i64 <| On 8 [0, 1, 6, 10, 11, 12, 13, 14, 15, 16, 17, 18, 19, 20, 24, 31] <| Lc (o9 + j * 3 + 2) (.slice A14 l14.length c14) hat9.blk (At.cell hat9 (es_at hx13) rfl) <| On 10 [0, 1, 6, 10, 11, 12, 13, 14, 15, 16, 17, 18, 19, 20, 24, 32, 33] ?_
  obtain ⟨b16, o16, L16, T16, rfl, hat16⟩ := SlT.opn hsl14
  have hb16lt := hat16.blk.lt
  have hob17 := hsw14 b16 ⟨_, rfl, rfl⟩
  have hob18 := hsx14 b16 ⟨_, rfl, rfl⟩
  refine Oi (b := b16) (o := o16) (len := l14.length) (cap := c14) (j := i) (some 34) 112 (.tmp 32) (.tmp 33) 185 2 16 .i64 <| On 12 [0, 1, 6, 10, 11, 12, 13, 14, 15, 16, 17, 18, 19, 20, 24, 35] ?_
  obtain ⟨x19, hx20⟩ := exAt (xs := l14) (i := i)
  refine Lc (o16 + i * 2 + 1) (nt x19.2) hat16.blk (At.cell hat16 (es_at hx20) rfl) <| On 15 [0, 1, 5, 6, 10, 11, 12, 13, 14, 15, 16, 17, 18, 19, 20] <| OI_end rfl <| X_block <| X_then <| V_region ?_
  have hw21 : i64.wrap ((i : Int) + 1) = ((i + 1 : Nat) : Int) := wrp
  refine On 2 [0, 1, 5, 10, 11, 12, 13, 14, 15, 16, 17, 18, 19, 20, 23] <| Oq (u := nt (i64.wrap ((i : Int) + 1))) (v := nt ((i + 1 : Nat) : Int)) 23 (by rw [hw21]) <| Os 3 [(0, pt x),(1, nt (j : Int)),(5, nt (if x19.2 > m then x19.2 else m)),(6, nt ((i + 1 : Nat) : Int)),(10, nt (i : Int)),(11, pt x),(12, pt x),(13, pt x),(14, sl_ b9 o9 ds.length cap),(15, nt (j : Int)),(16, .pointer (some ⟨b9, o9 + j * 3, none⟩)),(17, .pointer (some ⟨b9, o9 + j * 3 + 2, none⟩)),(18, sl_ b16 o16 l14.length c14),(19, nt (l14.length : Int)),(20, .bool (decide ((i : Int) < (l14.length : Int))))] <| OI_end rfl ?_
  exact V_again (k2 - 1) (by omega) [(0, pt x),(1, nt (j : Int)),(5, nt (if x19.2 > m then x19.2 else m)),(6, nt ((i + 1 : Nat) : Int))] rfl ⟨i + 1, if x19.2 > m then x19.2 else m, by omega, by rw [take_row (by rw [← hls14]; exact hx20), lockM_app, ← hm], hk3, rfl⟩
 refine V_exit <| X_exit_then <| X_exit_then <| X_exit_here <| X_then <| Vs [(4, nt m)] <| V_ret ?_
 have hie : i = (rowL (j : Int) cs).length := by omega
 rw [hie, List.take_length] at hm
 exact X_return _ rfl ⟨by rw [hm]; rfl, hK0⟩
theorem locked6_out (F : Nat → Prop) (x : Nat) (xs : List Acc) (cs : List Ci) (a : Int) (w : World) (h : DLd F w x xs cs) (hia : isA a = false) : Calls Tryz.prog 96 #[pt x, nt a] w (rk_ w (nt 0)) := by
 obtain ⟨hinv, hcl, hFx, hFlt, A, cap, ds, hdx⟩ := h
 have hx := hdx.blk
 have hA := hdx.sl
 have hxlt := hx.lt
 have hacc := hdx.acc
 have hall := hdx.all
 have hAx : ∀ q, inA A q → q ≠ x := fun q hq => (hdx.own q hq).2
 have hAlt := SlT.lt hA
 have hdl := de_len hacc hinv
 have hcl1 := hcl.1
 have hF0 : ∀ q, F q → F q ∨ w.heap.size ≤ q := fun _ h => .inl h
 have hK0 := Keep.refl none_ w
 refine eV ?_
 refine Vr <| On 1 [0, 1] <| Oer <| On 1 [0, 1, 5] <| Oe <| V_seq <| Vn [0, 1, 5, 6] <| V_block <| Vp [(0, pt x),(1, nt a),(5, nt 0),(6, nt 0)] <| V_loop (fun k wI e => (k = 0) ∧ Keep none_ w wI ∧ e = [(0, pt x),(1, nt a),(5, nt 0),(6, nt 0)]) 0 ⟨rfl, Keep.refl _ _, rfl⟩ ?_
 rintro k2 w1 _ ⟨hk9, hk3, rfl⟩
 have hsz4 := Keep.size hk3
 replace hK0 := hK0.tn hk3
 have hzhk3 := Keep.size hk3
 exact V_seq <| Vr <| On 1 [0, 1, 5, 6, 7] <| Kq (is6_spec a _) <| On 3 [0, 1, 5, 6, 9] <| Oq (u := .bool (isA a)) (v := .bool false) 9 (by rw [hia]) <| Oen [0, 1, 5, 6, 10, 11, 12, 13, 14, 15, 16, 17, 18, 19, 20, 21] <| Vf <| V_exit <| X_exit_then <| X_exit_then <| X_exit_here <| X_then <| Vn [4] <| Rr (nt 0) ⟨rfl, hK0⟩
theorem locked6_spec (F : Nat → Prop) (x : Nat) (xs : List Acc) (cs : List Ci) (a : Int) (w : World) (h : DLd F w x xs cs) : Calls Tryz.prog 96 #[pt x, nt a] w fun e w' => e = .returned (nt (lockedL cs a)) ∧ Keep none_ w w' := by
  cases hia : isA a with
  | true =>
    obtain ⟨j, rfl⟩ : ∃ j : Nat, a = j := ⟨a.toNat, by simp only [isA, decide_eq_true_eq] at hia; omega⟩
    exact locked6_in F x xs cs j w h (by simp only [isA, decide_eq_true_eq] at hia; omega)
  | false =>
    have h0 : lockedL cs a = 0 := by
      have hr : rowL a cs = [] := by
        unfold rowL
        rw [List.filter_eq_nil_iff.2]; rfl
        intro c hc hca
        have := h.okc.2.2 c hc
        rw [show c.a = a by simpa using hca, hia] at this; cases this
      unfold lockedL; rw [hr]; rfl
    rw [h0]; exact locked6_out F x xs cs a w h hia
end Go.Al
namespace Go.Al
open Go Go.RowKit Go.Proofs
theorem may6_spec (F : Nat → Prop) (x : Nat) (xs : List Acc) (cs : List Ci) (a n : Int) (w : World) (h : DLd F w x xs cs) : Calls Tryz.prog 66 #[pt x, nt a, nt n] w fun e w' => e = .returned (nt (spendsE xs cs a n)) ∧ Keep none_ w w' := by
 have h9 := h
 obtain ⟨hinv, hcl, hFx, hFlt, A, cap, ds, hdx⟩ := h
 have hx := hdx.blk
 have hA := hdx.sl
 have hxlt := hx.lt
 have hacc := hdx.acc
 have hall := hdx.all
 have hAx : ∀ q, inA A q → q ≠ x := fun q hq => (hdx.own q hq).2
 have hAlt := SlT.lt hA
 have hdl := de_len hacc hinv
 have hcl1 := hcl.1
 have hF0 : ∀ q, F q → F q ∨ w.heap.size ≤ q := fun _ h => .inl h
 have hK0 := Keep.refl none_ w
 refine eV ?_
 refine Vr <| On 1 [0, 1, 2] <| Oe <| V_seq <| V_block <| Vr <| On 1 [0, 1, 2, 8] <| Kq (is6_spec a _) <| Os 4 [(0, pt x),(1, nt a),(2, nt n),(11, .bool (!(isA a)))] ?_
 cases hg6 : (!(isA a))
 ·
  have hiaa : isA a = true := by simpa using hg6
  obtain ⟨j7, hj7, hjl7⟩ : ∃ j : Nat, a = j ∧ j < 10 := ⟨(a).toNat, by have h9 := hiaa; simp only [isA, decide_eq_true_eq] at h9; omega, by have h9 := hiaa; simp only [isA, decide_eq_true_eq] at h9; omega⟩
  refine OI_eq [(0, pt x),(1, nt a),(2, nt n),(11, .bool false)] (by first | rfl | rw [hg6]) <| On 8 [0, 1, 2, 15] ?_
  by_cases hg8 : n < 0
  ·
   exact Dt 15 hg8 <| Oen [0, 1, 2, 7] <| Vo <| Vn [6] <| V_ret <| X_ret_block <| X_ret_then <| Xr (nt 1) ⟨by unfold spendsE; simp_all <;> omega, hK0⟩
  refine Df 15 hg8 <| Oen [0, 1, 2, 7] <| Vi (n > 1073741824) (fun hc9 => ?_) (fun hc9 => ?_)
  ·
   exact Vn [6] <| V_ret <| X_ret_block <| X_ret_then <| Xr (nt 1) ⟨by unfold spendsE; simp_all <;> omega, hK0⟩
  refine Vr <| On 4 [0, 1, 2, 20, 23] <| Lr 0 (.slice A ds.length cap) hx <| On 6 [0, 1, 2, 20, 24, 25] ?_
  obtain ⟨b10, o10, L10, T10, rfl, hat10⟩ := SlT.opn hA
  have hb10lt := hat10.blk.lt
  have hob11 := hAx b10 ⟨_, rfl, rfl⟩
  have hob12 := hAlt b10 ⟨_, rfl, rfl⟩
  refine Op_ [(0, pt x),(1, nt a),(2, nt n),(20, nt n),(24, sl_ b10 o10 ds.length cap),(25, nt a)] <| Oq (u := nt a) (v := nt (j7 : Int)) 25 (by rw [hj7]) <| Oi (b := b10) (o := o10) (len := ds.length) (cap := cap) (j := j7) (some 26) 109 (.tmp 24) (.tmp 25) 114 3 40 .i64 <| On 8 [0, 1, 2, 20, 27] ?_
  obtain ⟨x13, hx14⟩ := exAt (xs := ds) (i := j7)
  obtain ⟨f15, g15, A15, c15, l15⟩ := x13
  obtain ⟨hls15, hsl15, hso15⟩ := hall j7 _ hx14
  replace hls15 : l15 = rowL (j7 : Int) cs := hls15
  replace hsl15 : SlT w 2 lkc A15 c15 l15 := hsl15
  replace hso15 : ∀ q, inA A15 q → _ := hso15
  obtain ⟨hbf15, hbh15, hbt15, _⟩ := hinv.at_ (de_at hacc hx14)
  replace hbf15 : 0 ≤ f15 := hbf15
  replace hbh15 : 0 ≤ g15 := hbh15
  replace hbt15 : f15 + g15 ≤ 1073741824 := hbt15
  have hsw15 : ∀ q, inA A15 q → q ≠ x ∧ q ≠ b10 ∧ q < w.heap.size := fun q hq => ⟨(hso15 q hq).2.1, fun e => (hso15 q hq).2.2 ⟨_, rfl, e⟩, hFlt q (hso15 q hq).1⟩
  have hsx15 := SlT.lt hsl15
  have hac_a : acct xs a = ⟨f15, g15⟩ := by rw [hj7]; exact de_acct hacc hx14 hjl7
  refine Lc (o10 + j7 * 3) (nt f15) hat10.blk (At.cell0 hat10 (es_at hx14) rfl) <| Oen [0, 1, 2, 19] <| Vi (n > f15) (fun hc16 => ?_) (fun hc16 => ?_)
  ·
   exact Vn [6] <| V_ret <| X_ret_block <| X_ret_then <| Xr (nt 6) ⟨by unfold spendsE; simp_all <;> omega, hK0⟩
  refine V_seq <| Vd1 (acts [15]) none_ [0, 1, 2, 13, 14, 15, 3, 4, 5, 6, 7, 8, 9, 10, 11, 12, 16, 17, 18] fun w18 hk17 he19 K22 _ => ?_
  replace hx := hx.k0 hk17
  replace hat10 := hat10.keep hk17 id
  replace h9 := DLd.keep h9 hk17 nk
  replace hK0 := hK0.tn hk17
  have qhx := hx
  have qhat10 := hat10
  refine Gn [13, 14, 15, 3, 4, 5, 6, 7, 8, 9, 10, 11, 12, 16, 17, 18] [0, 1, 2, 33] ?_
  by_cases hg23 : n > 0
  ·
   refine Et 33 hg23 <| Gn [15, 3, 4, 5, 6, 7, 8, 9, 10, 11, 12, 16, 17, 18] [0, 1, 2, 33, 44, 45] <| Hg (locked6_spec F x xs cs a _ h9) ?_
   rintro _ w24 ⟨rfl, hk25⟩
   have K26 := K22.tr (Keep.ofNone hk25)
   refine ⟨_, rfl, K26, ?_⟩
   have hzK26 := Keep.size K26
   have hsz27 := Keep.size hk25
   replace hK0 := hK0.tn hk25
   refine Gn [6, 7, 8, 9, 10, 11, 12, 16, 17, 18] [1, 2, 33, 36, 46] <| Mr 0 (sl_ b10 o10 ds.length cap) qhx <| Gn [8, 9, 10, 11, 12, 16, 17, 18] [2, 33, 37, 38, 46] <| Gp_ [(2, nt n),(33, .bool true),(37, sl_ b10 o10 ds.length cap),(38, nt a),(46, nt (lockedL cs a))] <| Gq_ (u := nt a) (v := nt (j7 : Int)) 38 (by rw [hj7]) <| Gi (b := b10) (o := o10) (len := ds.length) (cap := cap) (j := j7) 114 3 40 .i64 <| Gn [10, 11, 12, 16, 17, 18] [2, 33, 40, 46] <| Mc0 (o10 + j7 * 3) (nt f15) qhat10.blk (At.cell0 qhat10 (es_at hx14) rfl) ?_
   have hw28 : i64.wrap (f15 - n) = f15 - n := wrp
   refine Gn [16, 17, 18] [33, 43, 46] <| Gq_ (u := nt (i64.wrap (f15 - n))) (v := nt (f15 - n)) 43 (by rw [hw28]) <| Gn [] [30] <| GI_end <| X_then <| Vi (f15 - n < lockedL cs a) (fun hc29 => ?_) (fun hc29 => ?_)
   ·
    exact Vn [6] <| V_ret <| X_ret_block <| X_ret_then <| Xr (nt 7) ⟨by unfold spendsE; simp_all <;> omega, hK0⟩
   exact V_skip <| X_block <| X_then <| Vn [6] <| Rr (nt 0) ⟨by unfold spendsE; simp_all <;> omega, hK0⟩
  exact Ef 33 hg23 <| Gn [] [30] <| GI_end <| X_then <| Vf <| V_skip <| X_block <| X_then <| Vn [6] <| Rr (nt 0) ⟨by unfold spendsE; simp_all <;> omega, hK0⟩
 exact OI_eq [(0, pt x),(1, nt a),(2, nt n),(11, .bool true)] (by first | rfl | rw [hg6]) <| Oen [0, 1, 2, 7] <| Vo <| Vn [6] <| V_ret <| X_ret_block <| X_ret_then <| Xr (nt 1) ⟨by unfold spendsE; simp_all <;> omega, hK0⟩
end Go.Al
namespace Go.Al
open Go Go.RowKit Go.Proofs
variable {xs : List Acc}
theorem spends_7 {cs : List Ci} {a n : Int} (h : spendsE xs cs a n = 7) : isA a = true ∧ 0 ≤ n ∧ n ≤ 1073741824 ∧ n ≤ (acct xs a).free := by
  unfold spendsE at h
  split at h
  · cases h
  · rename_i h1
    split at h
    · cases h
    · rename_i h2
      simp only [not_or, Bool.not_eq_false, Classical.not_not] at h1
      exact ⟨h1.1, h1.2.1, h1.2.2, by omega⟩
theorem same_moved {j : Nat} {f g n : Int} (h : xs[j]? = some ⟨f, g⟩) : (xs.set j ⟨f - n, g⟩).set j ⟨f - n + n, g⟩ = xs := by
  obtain ⟨h1, h2⟩ := List.getElem?_eq_some_iff.1 h
  rw [List.set_set, show f - n + n = f by omega, ← h2, List.set_getElem_self]
theorem subH_0 (hi : Inv xs) (a : Int) (hA : isA a = true) : subH xs a 0 = xs := by
  unfold subH setA
  by_cases ha : isA a = true
  · obtain ⟨j, x, rfl, hj, hx, he⟩ := isA_some hi ha
    obtain ⟨h1, h2⟩ := List.getElem?_eq_some_iff.1 hx
    rw [he, Int.toNat_natCast, Int.sub_zero, ← h2, List.set_getElem_self]
  · exact absurd hA ha
set_option maxHeartbeats 1000000 in
theorem transfer6_spec (F : Nat → Prop) (x : Nat) (xs : List Acc) (cs : List Ci) (a b n : Int) (w : World) (h : DLd F w x xs cs) : Calls Tryz.prog 32 #[pt x, nt a, nt b, nt n] w fun e w' => e = .returned (nt (transE xs cs a b n)) ∧ (∃ F', DLd F' w' x (transX xs cs a b n) (cs) ∧ (∀ q, F' q → F q ∨ w.heap.size ≤ q)) ∧ Keep F w w' := by
 have hFlt := DLd.lt h
 have hxlt := hFlt _ (DLd.at_ h)
 have hinv := DLd.inv h
 have htot1 := hinv.2.2
 have htot0 := (tot_mem hinv.2.1).1
 have hF0 : ∀ q, F q → F q ∨ w.heap.size ≤ q := fun _ h => .inl h
 have hK0 := Keep.refl F w
 refine eV ?_
 refine Vr <| On 1 [0, 1, 2, 3] <| Oe <| V_seq <| Vr <| On 1 [0, 1, 2, 3, 10] <| Kq (is6_spec b _) <| Oen [0, 1, 2, 3, 12] <| Vb (!(isA b)) (fun hc6 => ?_) (fun hc6 => ?_)
 ·
  exact Vn [8] <| Rt <| Xr (nt 1) ⟨by unfold transE; simp_all, ⟨F, by rw [show transX xs cs a b n = xs from by unfold transX; simp_all]; exact h, hF0⟩, hK0⟩
 refine Vsk <| Vr <| On 3 [0, 1, 2, 3, 13, 14, 15] <| Kk (may6_spec F x xs cs a n _ h) fun w7 hk8 _ => ?_
 replace h := DLd.keep h hk8 nk
 replace hK0 := hK0.tn hk8
 refine On 5 [0, 1, 2, 3, 9] <| Oe <| V_seq <| Vr <| On 4 [0, 1, 2, 3, 9, 20] ?_
 by_cases hg10 : a = b
 ·
  refine Dt 20 hg10 <| Oen [0, 1, 2, 3, 9, 23] <| Vi (spendsE xs cs a n = 7) (fun hc11 => ?_) (fun hc11 => ?_)
  ·
   obtain ⟨hsa, hn1, hn2, hn3⟩ := spends_7 hc11
   obtain ⟨_, hcl, hFx, _, A, cap, ds, hdx⟩ := h
   have hx := hdx.blk
   have hA := hdx.sl
   have hacc := hdx.acc
   have hall := hdx.all
   have hAx : ∀ q, inA A q → q ≠ x := fun q hq => (hdx.own q hq).2
   have hAlt := SlT.lt hA
   have hdl := de_len hacc hinv
   have hcl1 := hcl.1
   have hFlt9 : ∀ q, F q → q < w7.heap.size := ltm hFlt
   obtain ⟨j12, hj12, hjl12⟩ : ∃ j : Nat, a = j ∧ j < 10 := ⟨(a).toNat, by have h9 := hsa; simp only [isA, decide_eq_true_eq] at h9; omega, by have h9 := hsa; simp only [isA, decide_eq_true_eq] at h9; omega⟩
   have hjb : b = j12 := hg10 ▸ hj12
   refine V_region <| On 1 [0, 1, 2, 3, 9] <| Oe <| V_seq <| Vn [0, 1, 2, 3, 9, 25] <| Vf <| Vsk <| V_seq ?_
   have h10 : 0 < ds.length := by omega
   obtain ⟨b13, o13, L13, T13, rfl, hat13⟩ := SlT.opn hA
   have hb13lt := hat13.blk.lt
   have hob14 := hAx b13 ⟨_, rfl, rfl⟩
   have hob15 := hAlt b13 ⟨_, rfl, rfl⟩
   have hFb13 : b13 < w.heap.size := hFlt _ (hdx.own _ ⟨_, rfl, rfl⟩).1
   refine Vd1 (acts [12, 17]) (only b13) [5, 6, 7, 8, 9, 10, 11, 12, 0, 1, 2, 3, 4, 13, 14, 15, 16, 17] fun w17 hk16 he18 K21 _ => ?_
   replace hx := hx.k0 hk16
   replace hat13 := hat13.keep hk16 id
   replace hK0 := hK0.tn hk16
   replace hall := DAll.keep hall hk16 (fun _ _ _ _ f => f)
   have qhx := hx
   refine Gn [8, 9, 10, 11, 12, 0, 1, 2, 3, 4, 13, 14, 15, 16, 17] [0, 1, 2, 3, 34] <| Mc 0 (sl_ b13 o13 ds.length cap) qhx (by show ¬ (_ = _); omega) rfl <| Gn [10, 11, 12, 0, 1, 2, 3, 4, 13, 14, 15, 16, 17] [0, 1, 2, 3, 35, 36] <| Gp_ [(0, pt x),(1, nt a),(2, nt b),(3, nt n),(35, sl_ b13 o13 ds.length cap),(36, nt a)] <| Gq_ (u := nt a) (v := nt (j12 : Int)) 36 (by rw [hj12]) <| Gi (b := b13) (o := o13) (len := ds.length) (cap := cap) (j := j12) 114 3 40 .i64 <| Gn [12, 0, 1, 2, 3, 4, 13, 14, 15, 16, 17] [0, 1, 2, 3, 38] ?_
   obtain ⟨x22, hx23⟩ := exAt (xs := ds) (i := j12)
   obtain ⟨f24, g24, A24, c24, l24⟩ := x22
   obtain ⟨hls24, hsl24, hso24⟩ := hall j12 _ hx23
   replace hls24 : l24 = rowL (j12 : Int) cs := hls24
   replace hsl24 : SlT w17 2 lkc A24 c24 l24 := hsl24
   replace hso24 : ∀ q, inA A24 q → _ := hso24
   obtain ⟨hbf24, hbh24, hbt24, _⟩ := hinv.at_ (de_at hacc hx23)
   replace hbf24 : 0 ≤ f24 := hbf24
   replace hbh24 : 0 ≤ g24 := hbh24
   replace hbt24 : f24 + g24 ≤ 1073741824 := hbt24
   have hsw24 : ∀ q, inA A24 q → q ≠ x ∧ q ≠ b13 ∧ q < w.heap.size := fun q hq => ⟨(hso24 q hq).2.1, fun e => (hso24 q hq).2.2 ⟨_, rfl, e⟩, hFlt q (hso24 q hq).1⟩
   have hsx24 := SlT.lt hsl24
   have hac_a : acct xs a = ⟨f24, g24⟩ := by rw [hj12]; exact de_acct hacc hx23 hjl12
   have hac_b : acct xs b = ⟨f24, g24⟩ := by rw [hjb]; exact de_acct hacc hx23 hjl12
   rw [hac_a] at hn3; replace hn3 : n ≤ f24 := hn3
   refine GI_cellA 3 (.tmp 38) (o13 + j12 * 3) (nt f24) (some 39) (by kernel_rfl) (by kernel_rfl) K21 (by kernel_rfl) hat13.blk (m := 1) (by kernel_rfl) (At.cell0 hat13 (es_at hx23) rfl) <| Gn [3, 4, 13, 14, 15, 16, 17] [0, 1, 2, 3, 29, 39] <| Mc 0 (sl_ b13 o13 ds.length cap) qhx (by show ¬ (_ = _); omega) rfl ?_
   have hw25 : i64.wrap (f24 - n) = f24 - n := wrp
   refine Gs [15, 16, 17] [(0, pt x),(2, nt b),(3, nt n),(30, sl_ b13 o13 ds.length cap),(31, nt a),(41, nt (i64.wrap (f24 - n)))] <| Gq_ (u := nt (i64.wrap (f24 - n))) (v := nt (f24 - n)) 41 (by rw [hw25]) <| Gp_ [(0, pt x),(2, nt b),(3, nt n),(30, sl_ b13 o13 ds.length cap),(31, nt a),(41, nt (f24 - n))] <| Gq_ (u := nt a) (v := nt (j12 : Int)) 31 (by rw [hj12]) <| Gi (b := b13) (o := o13) (len := ds.length) (cap := cap) (j := j12) 114 3 40 .i64 <| Gn [17] [0, 2, 3, 41, 43] <| GI_final 17 (by kernel_rfl) (by kernel_rfl) <| Ts1 (DE.mk (f24 - n) g24 A24 c24 l24 : DE) 0 (nt (f24 - n)) hat13 hx23 (by simp [DE.cells, over]) ?_
   intro w26 hat30 hk28 hz29 hlhx31 hx31
   have hsz32 := Keep.size hk28
   replace hx := hx.k1 hk28
   replace hK0 := Keep.fresh hK0 hk28 (by intro i hi hs; have hs2 : i = b13 := hs; first | (exfalso; omega) | (rw [hs2]; exact (hdx.own _ ⟨_, rfl, rfl⟩).1))
   replace hall := DAll.keep hall hk28 (fun q h1 h2 h3 hs => by have hs : q = b13 := hs; exact h3 (hs ▸ ⟨_, rfl, rfl⟩))
   have hst33 := de_at hacc hx23
   have ht33 : tot (xs.set j12 (Acc.mk (f24 - n) g24)) = tot xs + ((f24 - n) + g24) - (f24 + g24) := tot_set _ hst33
   have hinv33 : Inv (xs.set j12 (Acc.mk (f24 - n) g24)) := Inv.set hinv hst33 _ (by show 0 ≤ (f24 - n); omega) (by show 0 ≤ g24; omega) (by show tot xs + ((f24 - n) + g24) - (f24 + g24) ≤ 1073741824; omega)
   replace hacc := map_set (j := j12) hacc (f24 - n) g24 A24 c24 l24
   replace hall := DAll.set hall hx23 (f24 - n) g24
   refine Oe <| V_seq <| Vd1 (acts [12, 17]) (only b13) [5, 6, 7, 8, 9, 10, 11, 12, 0, 1, 2, 3, 4, 13, 14, 15, 16, 17] fun w35 hk34 he36 K39 _ => ?_
   replace hx := hx.k0 hk34
   replace hat30 := hat30.keep hk34 id
   replace hK0 := hK0.tn hk34
   replace hall := DAll.keep hall hk34 (fun _ _ _ _ f => f)
   have qhx := hx
   refine Gn [8, 9, 10, 11, 12, 0, 1, 2, 3, 4, 13, 14, 15, 16, 17] [0, 2, 3, 51] <| Mc 0 (sl_ b13 o13 ds.length cap) qhx (by show ¬ (_ = _); omega) rfl <| Gn [10, 11, 12, 0, 1, 2, 3, 4, 13, 14, 15, 16, 17] [0, 2, 3, 52, 53] <| Gp_ [(0, pt x),(2, nt b),(3, nt n),(52, sl_ b13 o13 ds.length cap),(53, nt b)] <| Gq_ (u := nt b) (v := nt (j12 : Int)) 53 (by rw [hjb]) <| Gi (b := b13) (o := o13) (len := ds.length) (cap := cap) (j := j12) 114 3 40 .i64 <| Gn [12, 0, 1, 2, 3, 4, 13, 14, 15, 16, 17] [0, 2, 3, 55] <| GI_cellA 3 (.tmp 55) (o13 + j12 * 3) (nt (f24 - n)) (some 56) (by kernel_rfl) (by kernel_rfl) K39 (by kernel_rfl) hat30.blk (m := 1) (by kernel_rfl) (At.cell0 hat30 (es_at hx31) rfl) <| Gn [3, 4, 13, 14, 15, 16, 17] [2, 3, 46, 56] <| Mc 0 (sl_ b13 o13 ds.length cap) qhx (by show ¬ (_ = _); omega) rfl ?_
   have hw40 : i64.wrap ((f24 - n) + n) = (f24 - n) + n := wrp
   refine Gs [15, 16, 17] [(47, sl_ b13 o13 ds.length cap),(48, nt b),(58, nt (i64.wrap ((f24 - n) + n)))] <| Gq_ (u := nt (i64.wrap ((f24 - n) + n))) (v := nt ((f24 - n) + n)) 58 (by rw [hw40]) <| Gp_ [(47, sl_ b13 o13 ds.length cap),(48, nt b),(58, nt ((f24 - n) + n))] <| Gq_ (u := nt b) (v := nt (j12 : Int)) 48 (by rw [hjb]) <| Gi (b := b13) (o := o13) (len := ds.length) (cap := cap) (j := j12) 114 3 40 .i64 <| Gn [17] [58, 60] <| GI_final 17 (by kernel_rfl) (by kernel_rfl) <| Tss1 (DE.mk ((f24 - n) + n) g24 A24 c24 l24 : DE) 0 (nt ((f24 - n) + n)) hat30 hx31 (by simp [DE.cells, over]) ?_
   intro w41 hat45 hk43 hz44 hlhx46 hx46
   have hsz47 := Keep.size hk43
   replace hx := hx.k1 hk43
   replace hK0 := Keep.fresh hK0 hk43 (by intro i hi hs; have hs2 : i = b13 := hs; first | (exfalso; omega) | (rw [hs2]; exact (hdx.own _ ⟨_, rfl, rfl⟩).1))
   replace hall := DAll.keep hall hk43 (fun q h1 h2 h3 hs => by have hs : q = b13 := hs; exact h3 (hs ▸ ⟨_, rfl, rfl⟩))
   have hst48 := de_at hacc hx31
   have ht48 : tot ((xs.set j12 (Acc.mk (f24 - n) g24)).set j12 (Acc.mk ((f24 - n) + n) g24)) = tot (xs.set j12 (Acc.mk (f24 - n) g24)) + (((f24 - n) + n) + g24) - ((f24 - n) + g24) := tot_set _ hst48
   have hinv48 : Inv ((xs.set j12 (Acc.mk (f24 - n) g24)).set j12 (Acc.mk ((f24 - n) + n) g24)) := Inv.set hinv33 hst48 _ (by show 0 ≤ ((f24 - n) + n); omega) (by show 0 ≤ g24; omega) (by show tot (xs.set j12 (Acc.mk (f24 - n) g24)) + (((f24 - n) + n) + g24) - ((f24 - n) + g24) ≤ 1073741824; omega)
   replace hacc := map_set (j := j12) hacc ((f24 - n) + n) g24 A24 c24 l24
   replace hall := DAll.set hall hx31 ((f24 - n) + n) g24
   rw [List.set_set (α := DE)] at hacc hall
   exact Oer <| Oen [8] <| Rr (nt 0) ⟨by unfold transE; simp_all, ⟨F, by rw [show transX xs cs a b n = ((xs.set j12 (Acc.mk (f24 - n) g24)).set j12 (Acc.mk ((f24 - n) + n) g24)) from (show transX xs cs a b n = xs from by unfold transX; rw [hc11, if_neg (by rintro ⟨_, h⟩; cases h)]).trans (same_moved hst33).symm]; exact ⟨hinv48, hcl, hFx, fun q hq => Nat.lt_of_lt_of_le (hFlt q hq) (by omega), _, _, _, ⟨by simp only [List.length_set]; exact hx, At.slt hat45, hdx.own, hacc, hall⟩⟩, hF0⟩, hK0⟩
  refine Vsk <| V_seq <| Vn [0, 1, 2, 3, 9, 25] <| V_not (spendsE xs cs a n = 0) (by kernel_rfl) (fun hc49 => ?_) (fun hc49 => ?_)
  ·
   exact Vn [8] <| Rt <| Xr (nt (spendsE xs cs a n)) ⟨by unfold transE; simp_all, ⟨F, by rw [show transX xs cs a b n = xs from by unfold transX; simp_all]; exact h, hF0⟩, hK0⟩
  obtain ⟨hsa, hn1, hn2, hn3, _⟩ := spends_ok hinv hc49
  obtain ⟨_, hcl, hFx, _, A, cap, ds, hdx⟩ := h
  have hx := hdx.blk
  have hA := hdx.sl
  have hacc := hdx.acc
  have hall := hdx.all
  have hAx : ∀ q, inA A q → q ≠ x := fun q hq => (hdx.own q hq).2
  have hAlt := SlT.lt hA
  have hdl := de_len hacc hinv
  have hcl1 := hcl.1
  have hFlt9 : ∀ q, F q → q < w7.heap.size := ltm hFlt
  obtain ⟨j50, hj50, hjl50⟩ : ∃ j : Nat, a = j ∧ j < 10 := ⟨(a).toNat, by have h9 := hsa; simp only [isA, decide_eq_true_eq] at h9; omega, by have h9 := hsa; simp only [isA, decide_eq_true_eq] at h9; omega⟩
  have hiab : isA b = true := by simpa using hc6
  obtain ⟨j51, hj51, hjl51⟩ : ∃ j : Nat, b = j ∧ j < 10 := ⟨(b).toNat, by have h9 := hiab; simp only [isA, decide_eq_true_eq] at h9; omega, by have h9 := hiab; simp only [isA, decide_eq_true_eq] at h9; omega⟩
  refine Vsk <| V_seq ?_
  have h10 : 0 < ds.length := by omega
  obtain ⟨b52, o52, L52, T52, rfl, hat52⟩ := SlT.opn hA
  have hb52lt := hat52.blk.lt
  have hob53 := hAx b52 ⟨_, rfl, rfl⟩
  have hob54 := hAlt b52 ⟨_, rfl, rfl⟩
  have hFb52 : b52 < w.heap.size := hFlt _ (hdx.own _ ⟨_, rfl, rfl⟩).1
  refine Vd1 (acts [12, 17]) (only b52) [5, 6, 7, 8, 9, 10, 11, 12, 0, 1, 2, 3, 4, 13, 14, 15, 16, 17] fun w56 hk55 he57 K60 _ => ?_
  replace hx := hx.k0 hk55
  replace hat52 := hat52.keep hk55 id
  replace hK0 := hK0.tn hk55
  replace hall := DAll.keep hall hk55 (fun _ _ _ _ f => f)
  have qhx := hx
  refine Gn [8, 9, 10, 11, 12, 0, 1, 2, 3, 4, 13, 14, 15, 16, 17] [0, 1, 2, 3, 34] <| Mc 0 (sl_ b52 o52 ds.length cap) qhx (by show ¬ (_ = _); omega) rfl <| Gn [10, 11, 12, 0, 1, 2, 3, 4, 13, 14, 15, 16, 17] [0, 1, 2, 3, 35, 36] <| Gp_ [(0, pt x),(1, nt a),(2, nt b),(3, nt n),(35, sl_ b52 o52 ds.length cap),(36, nt a)] <| Gq_ (u := nt a) (v := nt (j50 : Int)) 36 (by rw [hj50]) <| Gi (b := b52) (o := o52) (len := ds.length) (cap := cap) (j := j50) 114 3 40 .i64 <| Gn [12, 0, 1, 2, 3, 4, 13, 14, 15, 16, 17] [0, 1, 2, 3, 38] ?_
  obtain ⟨x61, hx62⟩ := exAt (xs := ds) (i := j50)
  obtain ⟨f63, g63, A63, c63, l63⟩ := x61
  obtain ⟨hls63, hsl63, hso63⟩ := hall j50 _ hx62
  replace hls63 : l63 = rowL (j50 : Int) cs := hls63
  replace hsl63 : SlT w56 2 lkc A63 c63 l63 := hsl63
  replace hso63 : ∀ q, inA A63 q → _ := hso63
  obtain ⟨hbf63, hbh63, hbt63, _⟩ := hinv.at_ (de_at hacc hx62)
  replace hbf63 : 0 ≤ f63 := hbf63
  replace hbh63 : 0 ≤ g63 := hbh63
  replace hbt63 : f63 + g63 ≤ 1073741824 := hbt63
  have hsw63 : ∀ q, inA A63 q → q ≠ x ∧ q ≠ b52 ∧ q < w.heap.size := fun q hq => ⟨(hso63 q hq).2.1, fun e => (hso63 q hq).2.2 ⟨_, rfl, e⟩, hFlt q (hso63 q hq).1⟩
  have hsx63 := SlT.lt hsl63
  have hac_a : acct xs a = ⟨f63, g63⟩ := by rw [hj50]; exact de_acct hacc hx62 hjl50
  rw [hac_a] at hn3; replace hn3 : n ≤ f63 := hn3
  refine GI_cellA 3 (.tmp 38) (o52 + j50 * 3) (nt f63) (some 39) (by kernel_rfl) (by kernel_rfl) K60 (by kernel_rfl) hat52.blk (m := 1) (by kernel_rfl) (At.cell0 hat52 (es_at hx62) rfl) <| Gn [3, 4, 13, 14, 15, 16, 17] [0, 1, 2, 3, 29, 39] <| Mc 0 (sl_ b52 o52 ds.length cap) qhx (by show ¬ (_ = _); omega) rfl ?_
  have hw64 : i64.wrap (f63 - n) = f63 - n := wrp
  refine Gs [15, 16, 17] [(0, pt x),(2, nt b),(3, nt n),(30, sl_ b52 o52 ds.length cap),(31, nt a),(41, nt (i64.wrap (f63 - n)))] <| Gq_ (u := nt (i64.wrap (f63 - n))) (v := nt (f63 - n)) 41 (by rw [hw64]) <| Gp_ [(0, pt x),(2, nt b),(3, nt n),(30, sl_ b52 o52 ds.length cap),(31, nt a),(41, nt (f63 - n))] <| Gq_ (u := nt a) (v := nt (j50 : Int)) 31 (by rw [hj50]) <| Gi (b := b52) (o := o52) (len := ds.length) (cap := cap) (j := j50) 114 3 40 .i64 <| Gn [17] [0, 2, 3, 41, 43] <| GI_final 17 (by kernel_rfl) (by kernel_rfl) <| Ts1 (DE.mk (f63 - n) g63 A63 c63 l63 : DE) 0 (nt (f63 - n)) hat52 hx62 (by simp [DE.cells, over]) ?_
  intro w65 hat69 hk67 hz68 hlhx70 hx70
  have hsz71 := Keep.size hk67
  replace hx := hx.k1 hk67
  replace hK0 := Keep.fresh hK0 hk67 (by intro i hi hs; have hs2 : i = b52 := hs; first | (exfalso; omega) | (rw [hs2]; exact (hdx.own _ ⟨_, rfl, rfl⟩).1))
  replace hall := DAll.keep hall hk67 (fun q h1 h2 h3 hs => by have hs : q = b52 := hs; exact h3 (hs ▸ ⟨_, rfl, rfl⟩))
  have hst72 := de_at hacc hx62
  have ht72 : tot (xs.set j50 (Acc.mk (f63 - n) g63)) = tot xs + ((f63 - n) + g63) - (f63 + g63) := tot_set _ hst72
  have hinv72 : Inv (xs.set j50 (Acc.mk (f63 - n) g63)) := Inv.set hinv hst72 _ (by show 0 ≤ (f63 - n); omega) (by show 0 ≤ g63; omega) (by show tot xs + ((f63 - n) + g63) - (f63 + g63) ≤ 1073741824; omega)
  replace hacc := map_set (j := j50) hacc (f63 - n) g63 A63 c63 l63
  replace hall := DAll.set hall hx62 (f63 - n) g63
  refine Oe <| V_seq <| Vd1 (acts [12, 17]) (only b52) [5, 6, 7, 8, 9, 10, 11, 12, 0, 1, 2, 3, 4, 13, 14, 15, 16, 17] fun w74 hk73 he75 K78 _ => ?_
  replace hx := hx.k0 hk73
  replace hat69 := hat69.keep hk73 id
  replace hK0 := hK0.tn hk73
  replace hall := DAll.keep hall hk73 (fun _ _ _ _ f => f)
  have qhx := hx
  refine Gn [8, 9, 10, 11, 12, 0, 1, 2, 3, 4, 13, 14, 15, 16, 17] [0, 2, 3, 51] <| Mc 0 (sl_ b52 o52 ds.length cap) qhx (by show ¬ (_ = _); omega) rfl <| Gn [10, 11, 12, 0, 1, 2, 3, 4, 13, 14, 15, 16, 17] [0, 2, 3, 52, 53] <| Gp_ [(0, pt x),(2, nt b),(3, nt n),(52, sl_ b52 o52 ds.length cap),(53, nt b)] <| Gq_ (u := nt b) (v := nt (j51 : Int)) 53 (by rw [hj51]) <| Gi (b := b52) (o := o52) (len := ds.length) (cap := cap) (j := j51) 114 3 40 .i64 <| Gn [12, 0, 1, 2, 3, 4, 13, 14, 15, 16, 17] [0, 2, 3, 55] ?_
  obtain ⟨x79, hx80⟩ := exAt (xs := ds.set j50 (DE.mk (f63 - n) g63 A63 c63 l63)) (i := j51)
  obtain ⟨f81, g81, A81, c81, l81⟩ := x79
  obtain ⟨hls81, hsl81, hso81⟩ := hall j51 _ hx80
  replace hls81 : l81 = rowL (j51 : Int) cs := hls81
  replace hsl81 : SlT w74 2 lkc A81 c81 l81 := hsl81
  replace hso81 : ∀ q, inA A81 q → _ := hso81
  obtain ⟨hbf81, hbh81, hbt81, _⟩ := hinv72.at_ (de_at hacc hx80)
  replace hbf81 : 0 ≤ f81 := hbf81
  replace hbh81 : 0 ≤ g81 := hbh81
  replace hbt81 : f81 + g81 ≤ 1073741824 := hbt81
  have hsw81 : ∀ q, inA A81 q → q ≠ x ∧ q ≠ b52 ∧ q < w.heap.size := fun q hq => ⟨(hso81 q hq).2.1, fun e => (hso81 q hq).2.2 ⟨_, rfl, e⟩, hFlt q (hso81 q hq).1⟩
  have hsx81 := SlT.lt hsl81
  refine GI_cellA 3 (.tmp 55) (o52 + j51 * 3) (nt f81) (some 56) (by kernel_rfl) (by kernel_rfl) K78 (by kernel_rfl) hat69.blk (m := 1) (by kernel_rfl) (At.cell0 hat69 (es_at hx80) rfl) <| Gn [3, 4, 13, 14, 15, 16, 17] [2, 3, 46, 56] <| Mc 0 (sl_ b52 o52 ds.length cap) qhx (by show ¬ (_ = _); omega) rfl ?_
  have hw82 : i64.wrap (f81 + n) = f81 + n := wrp
  refine Gs [15, 16, 17] [(47, sl_ b52 o52 ds.length cap),(48, nt b),(58, nt (i64.wrap (f81 + n)))] <| Gq_ (u := nt (i64.wrap (f81 + n))) (v := nt (f81 + n)) 58 (by rw [hw82]) <| Gp_ [(47, sl_ b52 o52 ds.length cap),(48, nt b),(58, nt (f81 + n))] <| Gq_ (u := nt b) (v := nt (j51 : Int)) 48 (by rw [hj51]) <| Gi (b := b52) (o := o52) (len := ds.length) (cap := cap) (j := j51) 114 3 40 .i64 <| Gn [17] [58, 60] <| GI_final 17 (by kernel_rfl) (by kernel_rfl) <| Ts1 (DE.mk (f81 + n) g81 A81 c81 l81 : DE) 0 (nt (f81 + n)) hat69 hx80 (by simp [DE.cells, over]) ?_
  intro w83 hat87 hk85 hz86 hlhx88 hx88
  have hsz89 := Keep.size hk85
  replace hx := hx.k1 hk85
  replace hK0 := Keep.fresh hK0 hk85 (by intro i hi hs; have hs2 : i = b52 := hs; first | (exfalso; omega) | (rw [hs2]; exact (hdx.own _ ⟨_, rfl, rfl⟩).1))
  replace hall := DAll.keep hall hk85 (fun q h1 h2 h3 hs => by have hs : q = b52 := hs; exact h3 (hs ▸ ⟨_, rfl, rfl⟩))
  have hst90 := de_at hacc hx80
  have ht90 : tot ((xs.set j50 (Acc.mk (f63 - n) g63)).set j51 (Acc.mk (f81 + n) g81)) = tot (xs.set j50 (Acc.mk (f63 - n) g63)) + ((f81 + n) + g81) - (f81 + g81) := tot_set _ hst90
  have hinv90 : Inv ((xs.set j50 (Acc.mk (f63 - n) g63)).set j51 (Acc.mk (f81 + n) g81)) := Inv.set hinv72 hst90 _ (by show 0 ≤ (f81 + n); omega) (by show 0 ≤ g81; omega) (by show tot (xs.set j50 (Acc.mk (f63 - n) g63)) + ((f81 + n) + g81) - (f81 + g81) ≤ 1073741824; omega)
  replace hacc := map_set (j := j51) hacc (f81 + n) g81 A81 c81 l81
  replace hall := DAll.set hall hx80 (f81 + n) g81
  exact Oer <| Oen [8] <| Rr (nt 0) ⟨by unfold transE; simp_all, ⟨F, by rw [show transX xs cs a b n = addF (subF xs a n) b n from by unfold transX; rw [if_pos ⟨hiab, hc49⟩], show subF xs a n = _ from by unfold subF; rw [setA_at hj50, acct_at hj50 hst72 hjl50], show addF (xs.set j50 (Acc.mk (f63 - n) g63)) b n = _ from by unfold addF; rw [setA_at hj51, acct_at hj51 hst90 hjl51]]; exact ⟨hinv90, hcl, hFx, fun q hq => Nat.lt_of_lt_of_le (hFlt q hq) (by omega), _, _, _, ⟨by simp only [List.length_set]; exact hx, At.slt hat87, hdx.own, hacc, hall⟩⟩, hF0⟩, hK0⟩
 refine Df 20 hg10 <| Oen [0, 1, 2, 3, 9, 23] <| Vf <| Vsk <| V_seq <| Vn [0, 1, 2, 3, 9, 25] <| V_not (spendsE xs cs a n = 0) (by kernel_rfl) (fun hc91 => ?_) (fun hc91 => ?_)
 ·
  exact Vn [8] <| Rt <| Xr (nt (spendsE xs cs a n)) ⟨by unfold transE; simp_all, ⟨F, by rw [show transX xs cs a b n = xs from by unfold transX; simp_all]; exact h, hF0⟩, hK0⟩
 obtain ⟨hsa, hn1, hn2, hn3, _⟩ := spends_ok hinv hc91
 obtain ⟨_, hcl, hFx, _, A, cap, ds, hdx⟩ := h
 have hx := hdx.blk
 have hA := hdx.sl
 have hacc := hdx.acc
 have hall := hdx.all
 have hAx : ∀ q, inA A q → q ≠ x := fun q hq => (hdx.own q hq).2
 have hAlt := SlT.lt hA
 have hdl := de_len hacc hinv
 have hcl1 := hcl.1
 have hFlt9 : ∀ q, F q → q < w7.heap.size := ltm hFlt
 obtain ⟨j92, hj92, hjl92⟩ : ∃ j : Nat, a = j ∧ j < 10 := ⟨(a).toNat, by have h9 := hsa; simp only [isA, decide_eq_true_eq] at h9; omega, by have h9 := hsa; simp only [isA, decide_eq_true_eq] at h9; omega⟩
 have hiab : isA b = true := by simpa using hc6
 obtain ⟨j93, hj93, hjl93⟩ : ∃ j : Nat, b = j ∧ j < 10 := ⟨(b).toNat, by have h9 := hiab; simp only [isA, decide_eq_true_eq] at h9; omega, by have h9 := hiab; simp only [isA, decide_eq_true_eq] at h9; omega⟩
 refine Vsk <| V_seq ?_
 have h10 : 0 < ds.length := by omega
 obtain ⟨b94, o94, L94, T94, rfl, hat94⟩ := SlT.opn hA
 have hb94lt := hat94.blk.lt
 have hob95 := hAx b94 ⟨_, rfl, rfl⟩
 have hob96 := hAlt b94 ⟨_, rfl, rfl⟩
 have hFb94 : b94 < w.heap.size := hFlt _ (hdx.own _ ⟨_, rfl, rfl⟩).1
 refine Vd1 (acts [12, 17]) (only b94) [5, 6, 7, 8, 9, 10, 11, 12, 0, 1, 2, 3, 4, 13, 14, 15, 16, 17] fun w98 hk97 he99 K102 _ => ?_
 replace hx := hx.k0 hk97
 replace hat94 := hat94.keep hk97 id
 replace hK0 := hK0.tn hk97
 replace hall := DAll.keep hall hk97 (fun _ _ _ _ f => f)
 have qhx := hx
 refine Gn [8, 9, 10, 11, 12, 0, 1, 2, 3, 4, 13, 14, 15, 16, 17] [0, 1, 2, 3, 34] <| Mc 0 (sl_ b94 o94 ds.length cap) qhx (by show ¬ (_ = _); omega) rfl <| Gn [10, 11, 12, 0, 1, 2, 3, 4, 13, 14, 15, 16, 17] [0, 1, 2, 3, 35, 36] <| Gp_ [(0, pt x),(1, nt a),(2, nt b),(3, nt n),(35, sl_ b94 o94 ds.length cap),(36, nt a)] <| Gq_ (u := nt a) (v := nt (j92 : Int)) 36 (by rw [hj92]) <| Gi (b := b94) (o := o94) (len := ds.length) (cap := cap) (j := j92) 114 3 40 .i64 <| Gn [12, 0, 1, 2, 3, 4, 13, 14, 15, 16, 17] [0, 1, 2, 3, 38] ?_
 obtain ⟨x103, hx104⟩ := exAt (xs := ds) (i := j92)
 obtain ⟨f105, g105, A105, c105, l105⟩ := x103
 obtain ⟨hls105, hsl105, hso105⟩ := hall j92 _ hx104
 replace hls105 : l105 = rowL (j92 : Int) cs := hls105
 replace hsl105 : SlT w98 2 lkc A105 c105 l105 := hsl105
 replace hso105 : ∀ q, inA A105 q → _ := hso105
 obtain ⟨hbf105, hbh105, hbt105, _⟩ := hinv.at_ (de_at hacc hx104)
 replace hbf105 : 0 ≤ f105 := hbf105
 replace hbh105 : 0 ≤ g105 := hbh105
 replace hbt105 : f105 + g105 ≤ 1073741824 := hbt105
 have hsw105 : ∀ q, inA A105 q → q ≠ x ∧ q ≠ b94 ∧ q < w.heap.size := fun q hq => ⟨(hso105 q hq).2.1, fun e => (hso105 q hq).2.2 ⟨_, rfl, e⟩, hFlt q (hso105 q hq).1⟩
 have hsx105 := SlT.lt hsl105
 have hac_a : acct xs a = ⟨f105, g105⟩ := by rw [hj92]; exact de_acct hacc hx104 hjl92
 rw [hac_a] at hn3; replace hn3 : n ≤ f105 := hn3
 refine GI_cellA 3 (.tmp 38) (o94 + j92 * 3) (nt f105) (some 39) (by kernel_rfl) (by kernel_rfl) K102 (by kernel_rfl) hat94.blk (m := 1) (by kernel_rfl) (At.cell0 hat94 (es_at hx104) rfl) <| Gn [3, 4, 13, 14, 15, 16, 17] [0, 1, 2, 3, 29, 39] <| Mc 0 (sl_ b94 o94 ds.length cap) qhx (by show ¬ (_ = _); omega) rfl ?_
 have hw106 : i64.wrap (f105 - n) = f105 - n := wrp
 refine Gs [15, 16, 17] [(0, pt x),(2, nt b),(3, nt n),(30, sl_ b94 o94 ds.length cap),(31, nt a),(41, nt (i64.wrap (f105 - n)))] <| Gq_ (u := nt (i64.wrap (f105 - n))) (v := nt (f105 - n)) 41 (by rw [hw106]) <| Gp_ [(0, pt x),(2, nt b),(3, nt n),(30, sl_ b94 o94 ds.length cap),(31, nt a),(41, nt (f105 - n))] <| Gq_ (u := nt a) (v := nt (j92 : Int)) 31 (by rw [hj92]) <| Gi (b := b94) (o := o94) (len := ds.length) (cap := cap) (j := j92) 114 3 40 .i64 <| Gn [17] [0, 2, 3, 41, 43] <| GI_final 17 (by kernel_rfl) (by kernel_rfl) <| Ts1 (DE.mk (f105 - n) g105 A105 c105 l105 : DE) 0 (nt (f105 - n)) hat94 hx104 (by simp [DE.cells, over]) ?_
 intro w107 hat111 hk109 hz110 hlhx112 hx112
 have hsz113 := Keep.size hk109
 replace hx := hx.k1 hk109
 replace hK0 := Keep.fresh hK0 hk109 (by intro i hi hs; have hs2 : i = b94 := hs; first | (exfalso; omega) | (rw [hs2]; exact (hdx.own _ ⟨_, rfl, rfl⟩).1))
 replace hall := DAll.keep hall hk109 (fun q h1 h2 h3 hs => by have hs : q = b94 := hs; exact h3 (hs ▸ ⟨_, rfl, rfl⟩))
 have hst114 := de_at hacc hx104
 have ht114 : tot (xs.set j92 (Acc.mk (f105 - n) g105)) = tot xs + ((f105 - n) + g105) - (f105 + g105) := tot_set _ hst114
 have hinv114 : Inv (xs.set j92 (Acc.mk (f105 - n) g105)) := Inv.set hinv hst114 _ (by show 0 ≤ (f105 - n); omega) (by show 0 ≤ g105; omega) (by show tot xs + ((f105 - n) + g105) - (f105 + g105) ≤ 1073741824; omega)
 replace hacc := map_set (j := j92) hacc (f105 - n) g105 A105 c105 l105
 replace hall := DAll.set hall hx104 (f105 - n) g105
 refine Oe <| V_seq <| Vd1 (acts [12, 17]) (only b94) [5, 6, 7, 8, 9, 10, 11, 12, 0, 1, 2, 3, 4, 13, 14, 15, 16, 17] fun w116 hk115 he117 K120 _ => ?_
 replace hx := hx.k0 hk115
 replace hat111 := hat111.keep hk115 id
 replace hK0 := hK0.tn hk115
 replace hall := DAll.keep hall hk115 (fun _ _ _ _ f => f)
 have qhx := hx
 refine Gn [8, 9, 10, 11, 12, 0, 1, 2, 3, 4, 13, 14, 15, 16, 17] [0, 2, 3, 51] <| Mc 0 (sl_ b94 o94 ds.length cap) qhx (by show ¬ (_ = _); omega) rfl <| Gn [10, 11, 12, 0, 1, 2, 3, 4, 13, 14, 15, 16, 17] [0, 2, 3, 52, 53] <| Gp_ [(0, pt x),(2, nt b),(3, nt n),(52, sl_ b94 o94 ds.length cap),(53, nt b)] <| Gq_ (u := nt b) (v := nt (j93 : Int)) 53 (by rw [hj93]) <| Gi (b := b94) (o := o94) (len := ds.length) (cap := cap) (j := j93) 114 3 40 .i64 <| Gn [12, 0, 1, 2, 3, 4, 13, 14, 15, 16, 17] [0, 2, 3, 55] ?_
 obtain ⟨x121, hx122⟩ := exAt (xs := ds.set j92 (DE.mk (f105 - n) g105 A105 c105 l105)) (i := j93)
 obtain ⟨f123, g123, A123, c123, l123⟩ := x121
 obtain ⟨hls123, hsl123, hso123⟩ := hall j93 _ hx122
 replace hls123 : l123 = rowL (j93 : Int) cs := hls123
 replace hsl123 : SlT w116 2 lkc A123 c123 l123 := hsl123
 replace hso123 : ∀ q, inA A123 q → _ := hso123
 obtain ⟨hbf123, hbh123, hbt123, _⟩ := hinv114.at_ (de_at hacc hx122)
 replace hbf123 : 0 ≤ f123 := hbf123
 replace hbh123 : 0 ≤ g123 := hbh123
 replace hbt123 : f123 + g123 ≤ 1073741824 := hbt123
 have hsw123 : ∀ q, inA A123 q → q ≠ x ∧ q ≠ b94 ∧ q < w.heap.size := fun q hq => ⟨(hso123 q hq).2.1, fun e => (hso123 q hq).2.2 ⟨_, rfl, e⟩, hFlt q (hso123 q hq).1⟩
 have hsx123 := SlT.lt hsl123
 refine GI_cellA 3 (.tmp 55) (o94 + j93 * 3) (nt f123) (some 56) (by kernel_rfl) (by kernel_rfl) K120 (by kernel_rfl) hat111.blk (m := 1) (by kernel_rfl) (At.cell0 hat111 (es_at hx122) rfl) <| Gn [3, 4, 13, 14, 15, 16, 17] [2, 3, 46, 56] <| Mc 0 (sl_ b94 o94 ds.length cap) qhx (by show ¬ (_ = _); omega) rfl ?_
 have hw124 : i64.wrap (f123 + n) = f123 + n := wrp
 refine Gs [15, 16, 17] [(47, sl_ b94 o94 ds.length cap),(48, nt b),(58, nt (i64.wrap (f123 + n)))] <| Gq_ (u := nt (i64.wrap (f123 + n))) (v := nt (f123 + n)) 58 (by rw [hw124]) <| Gp_ [(47, sl_ b94 o94 ds.length cap),(48, nt b),(58, nt (f123 + n))] <| Gq_ (u := nt b) (v := nt (j93 : Int)) 48 (by rw [hj93]) <| Gi (b := b94) (o := o94) (len := ds.length) (cap := cap) (j := j93) 114 3 40 .i64 <| Gn [17] [58, 60] <| GI_final 17 (by kernel_rfl) (by kernel_rfl) <| Ts1 (DE.mk (f123 + n) g123 A123 c123 l123 : DE) 0 (nt (f123 + n)) hat111 hx122 (by simp [DE.cells, over]) ?_
 intro w125 hat129 hk127 hz128 hlhx130 hx130
 have hsz131 := Keep.size hk127
 replace hx := hx.k1 hk127
 replace hK0 := Keep.fresh hK0 hk127 (by intro i hi hs; have hs2 : i = b94 := hs; first | (exfalso; omega) | (rw [hs2]; exact (hdx.own _ ⟨_, rfl, rfl⟩).1))
 replace hall := DAll.keep hall hk127 (fun q h1 h2 h3 hs => by have hs : q = b94 := hs; exact h3 (hs ▸ ⟨_, rfl, rfl⟩))
 have hst132 := de_at hacc hx122
 have ht132 : tot ((xs.set j92 (Acc.mk (f105 - n) g105)).set j93 (Acc.mk (f123 + n) g123)) = tot (xs.set j92 (Acc.mk (f105 - n) g105)) + ((f123 + n) + g123) - (f123 + g123) := tot_set _ hst132
 have hinv132 : Inv ((xs.set j92 (Acc.mk (f105 - n) g105)).set j93 (Acc.mk (f123 + n) g123)) := Inv.set hinv114 hst132 _ (by show 0 ≤ (f123 + n); omega) (by show 0 ≤ g123; omega) (by show tot (xs.set j92 (Acc.mk (f105 - n) g105)) + ((f123 + n) + g123) - (f123 + g123) ≤ 1073741824; omega)
 replace hacc := map_set (j := j93) hacc (f123 + n) g123 A123 c123 l123
 replace hall := DAll.set hall hx122 (f123 + n) g123
 exact Oer <| Oen [8] <| Rr (nt 0) ⟨by unfold transE; simp_all, ⟨F, by rw [show transX xs cs a b n = addF (subF xs a n) b n from by unfold transX; rw [if_pos ⟨hiab, hc91⟩], show subF xs a n = _ from by unfold subF; rw [setA_at hj92, acct_at hj92 hst114 hjl92], show addF (xs.set j92 (Acc.mk (f105 - n) g105)) b n = _ from by unfold addF; rw [setA_at hj93, acct_at hj93 hst132 hjl93]]; exact ⟨hinv132, hcl, hFx, fun q hq => Nat.lt_of_lt_of_le (hFlt q hq) (by omega), _, _, _, ⟨by simp only [List.length_set]; exact hx, At.slt hat129, hdx.own, hacc, hall⟩⟩, hF0⟩, hK0⟩
end Go.Al
namespace Go.Al
open Go Go.RowKit Go.Proofs
set_option maxHeartbeats 1000000 in
theorem reserve6_spec (F : Nat → Prop) (x : Nat) (xs : List Acc) (cs : List Ci) (a n : Int) (w : World) (h : DLd F w x xs cs) : Calls Tryz.prog 57 #[pt x, nt a, nt n] w fun e w' => e = .returned (nt (spendsE xs cs a n)) ∧ (∃ F', DLd F' w' x (resX xs cs a n) (cs) ∧ (∀ q, F' q → F q ∨ w.heap.size ≤ q)) ∧ Keep F w w' := by
 have hFlt := DLd.lt h
 have hxlt := hFlt _ (DLd.at_ h)
 have hinv := DLd.inv h
 have htot1 := hinv.2.2
 have htot0 := (tot_mem hinv.2.1).1
 have hF0 : ∀ q, F q → F q ∨ w.heap.size ≤ q := fun _ h => .inl h
 have hK0 := Keep.refl F w
 refine eV ?_
 refine Vr <| On 1 [0, 1, 2] <| Oer <| On 3 [0, 1, 2, 8, 9, 10] <| Kk (may6_spec F x xs cs a n _ h) fun w1 hk2 _ => ?_
 replace h := DLd.keep h hk2 nk
 replace hK0 := hK0.tn hk2
 refine On 5 [0, 1, 2, 7] <| Oe <| V_seq <| Vn [0, 1, 2, 7, 13] <| V_not (spendsE xs cs a n = 0) (by kernel_rfl) (fun hc4 => ?_) (fun hc4 => ?_)
 ·
  exact Vn [6] <| Rt <| Xr (nt (spendsE xs cs a n)) ⟨rfl, ⟨F, by rw [show resX xs cs a n = xs from by unfold resX; simp_all]; exact h, hF0⟩, hK0⟩
 obtain ⟨hsa, hn1, hn2, hn3, _⟩ := spends_ok hinv hc4
 obtain ⟨_, hcl, hFx, _, A, cap, ds, hdx⟩ := h
 have hx := hdx.blk
 have hA := hdx.sl
 have hacc := hdx.acc
 have hall := hdx.all
 have hAx : ∀ q, inA A q → q ≠ x := fun q hq => (hdx.own q hq).2
 have hAlt := SlT.lt hA
 have hdl := de_len hacc hinv
 have hcl1 := hcl.1
 have hFlt9 : ∀ q, F q → q < w1.heap.size := ltm hFlt
 obtain ⟨j5, hj5, hjl5⟩ : ∃ j : Nat, a = j ∧ j < 10 := ⟨(a).toNat, by have h9 := hsa; simp only [isA, decide_eq_true_eq] at h9; omega, by have h9 := hsa; simp only [isA, decide_eq_true_eq] at h9; omega⟩
 refine Vsk <| V_seq ?_
 have h10 : 0 < ds.length := by omega
 obtain ⟨b6, o6, L6, T6, rfl, hat6⟩ := SlT.opn hA
 have hb6lt := hat6.blk.lt
 have hob7 := hAx b6 ⟨_, rfl, rfl⟩
 have hob8 := hAlt b6 ⟨_, rfl, rfl⟩
 have hFb6 : b6 < w.heap.size := hFlt _ (hdx.own _ ⟨_, rfl, rfl⟩).1
 refine Vd (acts [17, 27, 32, 35]) (only b6) [[10, 11, 12, 13, 14, 15, 16, 17, 20, 21, 22, 23, 24, 25, 26, 27, 0, 1, 2, 3, 4, 5, 6, 7, 8, 18, 19, 30, 31, 32, 9, 28, 29, 33, 34, 35], [20, 21, 22, 23, 24, 25, 26, 27, 10, 11, 12, 13, 14, 15, 16, 17, 0, 1, 2, 3, 4, 5, 6, 7, 8, 18, 19, 30, 31, 32, 9, 28, 29, 33, 34, 35]] ?_
 intro w10 hk9 he11 L hL12
 have hsz13 := Keep.size hk9
 replace hx := hx.k0 hk9
 replace hat6 := hat6.keep hk9 id
 replace hK0 := hK0.tn hk9
 replace hall := DAll.keep hall hk9 (fun _ _ _ _ f => f)
 have qhx := hx
 have K14 : Keep (only b6) w10 w10 := Keep.refl _ _
 simp only [List.mem_cons, List.not_mem_nil, or_false] at hL12
 rcases hL12 with rfl | rfl
 ·
  refine Gn [13, 14, 15, 16, 17, 20, 21, 22, 23, 24, 25, 26, 27, 0, 1, 2, 3, 4, 5, 6, 7, 8, 18, 19, 30, 31, 32, 9, 28, 29, 33, 34, 35] [0, 1, 2, 27] <| Mc 0 (sl_ b6 o6 ds.length cap) qhx (by show ¬ (_ = _); omega) rfl <| Gn [15, 16, 17, 20, 21, 22, 23, 24, 25, 26, 27, 0, 1, 2, 3, 4, 5, 6, 7, 8, 18, 19, 30, 31, 32, 9, 28, 29, 33, 34, 35] [0, 1, 2, 28, 29] <| Gp_ [(0, pt x),(1, nt a),(2, nt n),(28, sl_ b6 o6 ds.length cap),(29, nt a)] <| Gq_ (u := nt a) (v := nt (j5 : Int)) 29 (by rw [hj5]) <| Gi (b := b6) (o := o6) (len := ds.length) (cap := cap) (j := j5) 114 3 40 .i64 <| Gn [17, 20, 21, 22, 23, 24, 25, 26, 27, 0, 1, 2, 3, 4, 5, 6, 7, 8, 18, 19, 30, 31, 32, 9, 28, 29, 33, 34, 35] [0, 1, 2, 31] ?_
  obtain ⟨x15, hx16⟩ := exAt (xs := ds) (i := j5)
  obtain ⟨f17, g17, A17, c17, l17⟩ := x15
  obtain ⟨hls17, hsl17, hso17⟩ := hall j5 _ hx16
  replace hls17 : l17 = rowL (j5 : Int) cs := hls17
  replace hsl17 : SlT w10 2 lkc A17 c17 l17 := hsl17
  replace hso17 : ∀ q, inA A17 q → _ := hso17
  obtain ⟨hbf17, hbh17, hbt17, _⟩ := hinv.at_ (de_at hacc hx16)
  replace hbf17 : 0 ≤ f17 := hbf17
  replace hbh17 : 0 ≤ g17 := hbh17
  replace hbt17 : f17 + g17 ≤ 1073741824 := hbt17
  have hsw17 : ∀ q, inA A17 q → q ≠ x ∧ q ≠ b6 ∧ q < w.heap.size := fun q hq => ⟨(hso17 q hq).2.1, fun e => (hso17 q hq).2.2 ⟨_, rfl, e⟩, hFlt q (hso17 q hq).1⟩
  have hsx17 := SlT.lt hsl17
  have hac_a : acct xs a = ⟨f17, g17⟩ := by rw [hj5]; exact de_acct hacc hx16 hjl5
  rw [hac_a] at hn3; replace hn3 : n ≤ f17 := hn3
  refine GI_cellA 3 (.tmp 31) (o6 + j5 * 3) (nt f17) (some 32) (by kernel_rfl) (by kernel_rfl) K14 (by kernel_rfl) hat6.blk (m := 1) (by kernel_rfl) (At.cell0 hat6 (es_at hx16) rfl) <| Gn [23, 24, 25, 26, 27, 0, 1, 2, 3, 4, 5, 6, 7, 8, 18, 19, 30, 31, 32, 9, 28, 29, 33, 34, 35] [0, 1, 2, 32, 37] <| Mc 0 (sl_ b6 o6 ds.length cap) qhx (by show ¬ (_ = _); omega) rfl <| Gn [25, 26, 27, 0, 1, 2, 3, 4, 5, 6, 7, 8, 18, 19, 30, 31, 32, 9, 28, 29, 33, 34, 35] [0, 1, 2, 32, 38, 39] <| Gp_ [(0, pt x),(1, nt a),(2, nt n),(32, nt f17),(38, sl_ b6 o6 ds.length cap),(39, nt a)] <| Gq_ (u := nt a) (v := nt (j5 : Int)) 39 (by rw [hj5]) <| Gi (b := b6) (o := o6) (len := ds.length) (cap := cap) (j := j5) 114 3 40 .i64 <| Gn [27, 0, 1, 2, 3, 4, 5, 6, 7, 8, 18, 19, 30, 31, 32, 9, 28, 29, 33, 34, 35] [0, 1, 2, 32, 41] <| GI_cellA 3 (.tmp 41) (o6 + j5 * 3 + 1) (nt g17) (some 42) (by kernel_rfl) (by kernel_rfl) K14 (by kernel_rfl) hat6.blk (m := 1) (by kernel_rfl) (At.cell hat6 (es_at hx16) rfl) <| Gn [3, 4, 5, 6, 7, 8, 18, 19, 30, 31, 32, 9, 28, 29, 33, 34, 35] [0, 1, 2, 17, 32, 42] <| Mc 0 (sl_ b6 o6 ds.length cap) qhx (by show ¬ (_ = _); omega) rfl <| Gn [8, 18, 19, 30, 31, 32, 9, 28, 29, 33, 34, 35] [1, 2, 18, 19, 22, 32, 42] <| Mc 0 (sl_ b6 o6 ds.length cap) qhx (by show ¬ (_ = _); omega) rfl ?_
  have hw18 : i64.wrap (f17 - n) = f17 - n := wrp
  refine Gs [30, 31, 32, 9, 28, 29, 33, 34, 35] [(1, nt a),(2, nt n),(18, sl_ b6 o6 ds.length cap),(19, nt a),(23, sl_ b6 o6 ds.length cap),(34, nt (i64.wrap (f17 - n))),(42, nt g17)] <| Gq_ (u := nt (i64.wrap (f17 - n))) (v := nt (f17 - n)) 34 (by rw [hw18]) <| Gp_ [(1, nt a),(2, nt n),(18, sl_ b6 o6 ds.length cap),(19, nt a),(23, sl_ b6 o6 ds.length cap),(34, nt (f17 - n)),(42, nt g17)] <| Gq_ (u := nt a) (v := nt (j5 : Int)) 19 (by rw [hj5]) <| Gi (b := b6) (o := o6) (len := ds.length) (cap := cap) (j := j5) 114 3 40 .i64 <| Gn [32, 9, 28, 29, 33, 34, 35] [1, 2, 23, 34, 42, 46] <| GI_set (m := 1) (kd := false) 3 (.tmp 46) (.tmp 34) (o6 + j5 * 3) (nt (f17 - n)) [nt (f17 - n)] none (by kernel_rfl) (by kernel_rfl) (by kernel_rfl) (by kernel_rfl) (At.blk hat6) (by kernel_rfl) (by kernel_rfl) rfl (by have h1 := At.room hat6; have h2 := At.le hat6; rw [List.length_map] at h2; omega) (by simp [Value.oneCell']) K14 (fun hh => rfl) ?_
  intro w19 hn20 hk21 hz22 K24
  obtain ⟨hat23, hlhx25, hx25⟩ := At.st1 (y := (DE.mk (f17 - n) g17 A17 c17 l17 : DE)) (k := 0) hat6 hx16 (by omega) (by simp [DE.cells, over]) hn20
  have hsz26 := Keep.size hk21
  replace hx := hx.k1 hk21
  replace hK0 := Keep.fresh hK0 hk21 (by intro i hi hs; have hs2 : i = b6 := hs; first | (exfalso; omega) | (rw [hs2]; exact (hdx.own _ ⟨_, rfl, rfl⟩).1))
  replace hall := DAll.keep hall hk21 (fun q h1 h2 h3 hs => by have hs : q = b6 := hs; exact h3 (hs ▸ ⟨_, rfl, rfl⟩))
  have hst27 := de_at hacc hx16
  have ht27 : tot (xs.set j5 (Acc.mk (f17 - n) g17)) = tot xs + ((f17 - n) + g17) - (f17 + g17) := tot_set _ hst27
  have hinv27 : Inv (xs.set j5 (Acc.mk (f17 - n) g17)) := Inv.set hinv hst27 _ (by show 0 ≤ (f17 - n); omega) (by show 0 ≤ g17; omega) (by show tot xs + ((f17 - n) + g17) - (f17 + g17) ≤ 1073741824; omega)
  replace hacc := map_set (j := j5) hacc (f17 - n) g17 A17 c17 l17
  replace hall := DAll.set hall hx16 (f17 - n) g17
  have hw28 : i64.wrap (g17 + n) = g17 + n := wrp
  refine Gs [33, 34, 35] [(23, sl_ b6 o6 ds.length cap),(24, nt a),(44, nt (i64.wrap (g17 + n)))] <| Gq_ (u := nt (i64.wrap (g17 + n))) (v := nt (g17 + n)) 44 (by rw [hw28]) <| Gp_ [(23, sl_ b6 o6 ds.length cap),(24, nt a),(44, nt (g17 + n))] <| Gq_ (u := nt a) (v := nt (j5 : Int)) 24 (by rw [hj5]) <| Gi (b := b6) (o := o6) (len := ds.length) (cap := cap) (j := j5) 114 3 40 .i64 <| Gn [35] [44, 48] <| GI_final 35 (by kernel_rfl) (by kernel_rfl) <| Tss1 (DE.mk (f17 - n) (g17 + n) A17 c17 l17 : DE) 1 (nt (g17 + n)) hat23 hx25 (by simp [DE.cells, over]) ?_
  intro w29 hat33 hk31 hz32 hlhx34 hx34
  have hsz35 := Keep.size hk31
  replace hx := hx.k1 hk31
  replace hK0 := Keep.fresh hK0 hk31 (by intro i hi hs; have hs2 : i = b6 := hs; first | (exfalso; omega) | (rw [hs2]; exact (hdx.own _ ⟨_, rfl, rfl⟩).1))
  replace hall := DAll.keep hall hk31 (fun q h1 h2 h3 hs => by have hs : q = b6 := hs; exact h3 (hs ▸ ⟨_, rfl, rfl⟩))
  have hst36 := de_at hacc hx25
  have ht36 : tot ((xs.set j5 (Acc.mk (f17 - n) g17)).set j5 (Acc.mk (f17 - n) (g17 + n))) = tot (xs.set j5 (Acc.mk (f17 - n) g17)) + ((f17 - n) + (g17 + n)) - ((f17 - n) + g17) := tot_set _ hst36
  have hinv36 : Inv ((xs.set j5 (Acc.mk (f17 - n) g17)).set j5 (Acc.mk (f17 - n) (g17 + n))) := Inv.set hinv27 hst36 _ (by show 0 ≤ (f17 - n); omega) (by show 0 ≤ (g17 + n); omega) (by show tot (xs.set j5 (Acc.mk (f17 - n) g17)) + ((f17 - n) + (g17 + n)) - ((f17 - n) + g17) ≤ 1073741824; omega)
  replace hacc := map_set (j := j5) hacc (f17 - n) (g17 + n) A17 c17 l17
  replace hall := DAll.set hall hx25 (f17 - n) (g17 + n)
  rw [List.set_set (α := DE)] at hacc hall
  exact Oer <| Oen [6] <| Rr (nt 0) ⟨by rw [hc4], ⟨F, by rw [show resX xs cs a n = addH (subF xs a n) a n from by unfold resX; rw [if_pos hc4], show subF xs a n = _ from by unfold subF; rw [setA_at hj5, acct_at hj5 hst27 hjl5], show addH (xs.set j5 (Acc.mk (f17 - n) g17)) a n = _ from by unfold addH; rw [setA_at hj5, acct_at hj5 hst36 hjl5]]; exact ⟨hinv36, hcl, hFx, fun q hq => Nat.lt_of_lt_of_le (hFlt q hq) (by omega), _, _, _, ⟨by simp only [List.length_set]; exact hx, At.slt hat33, hdx.own, hacc, hall⟩⟩, hF0⟩, hK0⟩
 ·
  refine Gn [23, 24, 25, 26, 27, 10, 11, 12, 13, 14, 15, 16, 17, 0, 1, 2, 3, 4, 5, 6, 7, 8, 18, 19, 30, 31, 32, 9, 28, 29, 33, 34, 35] [0, 1, 2, 37] <| Mc 0 (sl_ b6 o6 ds.length cap) qhx (by show ¬ (_ = _); omega) rfl <| Gn [25, 26, 27, 10, 11, 12, 13, 14, 15, 16, 17, 0, 1, 2, 3, 4, 5, 6, 7, 8, 18, 19, 30, 31, 32, 9, 28, 29, 33, 34, 35] [0, 1, 2, 38, 39] <| Gp_ [(0, pt x),(1, nt a),(2, nt n),(38, sl_ b6 o6 ds.length cap),(39, nt a)] <| Gq_ (u := nt a) (v := nt (j5 : Int)) 39 (by rw [hj5]) <| Gi (b := b6) (o := o6) (len := ds.length) (cap := cap) (j := j5) 114 3 40 .i64 <| Gn [27, 10, 11, 12, 13, 14, 15, 16, 17, 0, 1, 2, 3, 4, 5, 6, 7, 8, 18, 19, 30, 31, 32, 9, 28, 29, 33, 34, 35] [0, 1, 2, 41] ?_
  obtain ⟨x37, hx38⟩ := exAt (xs := ds) (i := j5)
  obtain ⟨f39, g39, A39, c39, l39⟩ := x37
  obtain ⟨hls39, hsl39, hso39⟩ := hall j5 _ hx38
  replace hls39 : l39 = rowL (j5 : Int) cs := hls39
  replace hsl39 : SlT w10 2 lkc A39 c39 l39 := hsl39
  replace hso39 : ∀ q, inA A39 q → _ := hso39
  obtain ⟨hbf39, hbh39, hbt39, _⟩ := hinv.at_ (de_at hacc hx38)
  replace hbf39 : 0 ≤ f39 := hbf39
  replace hbh39 : 0 ≤ g39 := hbh39
  replace hbt39 : f39 + g39 ≤ 1073741824 := hbt39
  have hsw39 : ∀ q, inA A39 q → q ≠ x ∧ q ≠ b6 ∧ q < w.heap.size := fun q hq => ⟨(hso39 q hq).2.1, fun e => (hso39 q hq).2.2 ⟨_, rfl, e⟩, hFlt q (hso39 q hq).1⟩
  have hsx39 := SlT.lt hsl39
  have hac_a : acct xs a = ⟨f39, g39⟩ := by rw [hj5]; exact de_acct hacc hx38 hjl5
  rw [hac_a] at hn3; replace hn3 : n ≤ f39 := hn3
  refine GI_cellA 3 (.tmp 41) (o6 + j5 * 3 + 1) (nt g39) (some 42) (by kernel_rfl) (by kernel_rfl) K14 (by kernel_rfl) hat6.blk (m := 1) (by kernel_rfl) (At.cell hat6 (es_at hx38) rfl) <| Gn [13, 14, 15, 16, 17, 0, 1, 2, 3, 4, 5, 6, 7, 8, 18, 19, 30, 31, 32, 9, 28, 29, 33, 34, 35] [0, 1, 2, 27, 42] <| Mc 0 (sl_ b6 o6 ds.length cap) qhx (by show ¬ (_ = _); omega) rfl <| Gn [15, 16, 17, 0, 1, 2, 3, 4, 5, 6, 7, 8, 18, 19, 30, 31, 32, 9, 28, 29, 33, 34, 35] [0, 1, 2, 28, 29, 42] <| Gp_ [(0, pt x),(1, nt a),(2, nt n),(28, sl_ b6 o6 ds.length cap),(29, nt a),(42, nt g39)] <| Gq_ (u := nt a) (v := nt (j5 : Int)) 29 (by rw [hj5]) <| Gi (b := b6) (o := o6) (len := ds.length) (cap := cap) (j := j5) 114 3 40 .i64 <| Gn [17, 0, 1, 2, 3, 4, 5, 6, 7, 8, 18, 19, 30, 31, 32, 9, 28, 29, 33, 34, 35] [0, 1, 2, 31, 42] <| GI_cellA 3 (.tmp 31) (o6 + j5 * 3) (nt f39) (some 32) (by kernel_rfl) (by kernel_rfl) K14 (by kernel_rfl) hat6.blk (m := 1) (by kernel_rfl) (At.cell0 hat6 (es_at hx38) rfl) <| Gn [3, 4, 5, 6, 7, 8, 18, 19, 30, 31, 32, 9, 28, 29, 33, 34, 35] [0, 1, 2, 17, 32, 42] <| Mc 0 (sl_ b6 o6 ds.length cap) qhx (by show ¬ (_ = _); omega) rfl <| Gn [8, 18, 19, 30, 31, 32, 9, 28, 29, 33, 34, 35] [1, 2, 18, 19, 22, 32, 42] <| Mc 0 (sl_ b6 o6 ds.length cap) qhx (by show ¬ (_ = _); omega) rfl ?_
  have hw40 : i64.wrap (f39 - n) = f39 - n := wrp
  refine Gs [30, 31, 32, 9, 28, 29, 33, 34, 35] [(1, nt a),(2, nt n),(18, sl_ b6 o6 ds.length cap),(19, nt a),(23, sl_ b6 o6 ds.length cap),(34, nt (i64.wrap (f39 - n))),(42, nt g39)] <| Gq_ (u := nt (i64.wrap (f39 - n))) (v := nt (f39 - n)) 34 (by rw [hw40]) <| Gp_ [(1, nt a),(2, nt n),(18, sl_ b6 o6 ds.length cap),(19, nt a),(23, sl_ b6 o6 ds.length cap),(34, nt (f39 - n)),(42, nt g39)] <| Gq_ (u := nt a) (v := nt (j5 : Int)) 19 (by rw [hj5]) <| Gi (b := b6) (o := o6) (len := ds.length) (cap := cap) (j := j5) 114 3 40 .i64 <| Gn [32, 9, 28, 29, 33, 34, 35] [1, 2, 23, 34, 42, 46] <| GI_set (m := 1) (kd := false) 3 (.tmp 46) (.tmp 34) (o6 + j5 * 3) (nt (f39 - n)) [nt (f39 - n)] none (by kernel_rfl) (by kernel_rfl) (by kernel_rfl) (by kernel_rfl) (At.blk hat6) (by kernel_rfl) (by kernel_rfl) rfl (by have h1 := At.room hat6; have h2 := At.le hat6; rw [List.length_map] at h2; omega) (by simp [Value.oneCell']) K14 (fun hh => rfl) ?_
  intro w41 hn42 hk43 hz44 K46
  obtain ⟨hat45, hlhx47, hx47⟩ := At.st1 (y := (DE.mk (f39 - n) g39 A39 c39 l39 : DE)) (k := 0) hat6 hx38 (by omega) (by simp [DE.cells, over]) hn42
  have hsz48 := Keep.size hk43
  replace hx := hx.k1 hk43
  replace hK0 := Keep.fresh hK0 hk43 (by intro i hi hs; have hs2 : i = b6 := hs; first | (exfalso; omega) | (rw [hs2]; exact (hdx.own _ ⟨_, rfl, rfl⟩).1))
  replace hall := DAll.keep hall hk43 (fun q h1 h2 h3 hs => by have hs : q = b6 := hs; exact h3 (hs ▸ ⟨_, rfl, rfl⟩))
  have hst49 := de_at hacc hx38
  have ht49 : tot (xs.set j5 (Acc.mk (f39 - n) g39)) = tot xs + ((f39 - n) + g39) - (f39 + g39) := tot_set _ hst49
  have hinv49 : Inv (xs.set j5 (Acc.mk (f39 - n) g39)) := Inv.set hinv hst49 _ (by show 0 ≤ (f39 - n); omega) (by show 0 ≤ g39; omega) (by show tot xs + ((f39 - n) + g39) - (f39 + g39) ≤ 1073741824; omega)
  replace hacc := map_set (j := j5) hacc (f39 - n) g39 A39 c39 l39
  replace hall := DAll.set hall hx38 (f39 - n) g39
  have hw50 : i64.wrap (g39 + n) = g39 + n := wrp
  refine Gs [33, 34, 35] [(23, sl_ b6 o6 ds.length cap),(24, nt a),(44, nt (i64.wrap (g39 + n)))] <| Gq_ (u := nt (i64.wrap (g39 + n))) (v := nt (g39 + n)) 44 (by rw [hw50]) <| Gp_ [(23, sl_ b6 o6 ds.length cap),(24, nt a),(44, nt (g39 + n))] <| Gq_ (u := nt a) (v := nt (j5 : Int)) 24 (by rw [hj5]) <| Gi (b := b6) (o := o6) (len := ds.length) (cap := cap) (j := j5) 114 3 40 .i64 <| Gn [35] [44, 48] <| GI_final 35 (by kernel_rfl) (by kernel_rfl) <| Tss1 (DE.mk (f39 - n) (g39 + n) A39 c39 l39 : DE) 1 (nt (g39 + n)) hat45 hx47 (by simp [DE.cells, over]) ?_
  intro w51 hat55 hk53 hz54 hlhx56 hx56
  have hsz57 := Keep.size hk53
  replace hx := hx.k1 hk53
  replace hK0 := Keep.fresh hK0 hk53 (by intro i hi hs; have hs2 : i = b6 := hs; first | (exfalso; omega) | (rw [hs2]; exact (hdx.own _ ⟨_, rfl, rfl⟩).1))
  replace hall := DAll.keep hall hk53 (fun q h1 h2 h3 hs => by have hs : q = b6 := hs; exact h3 (hs ▸ ⟨_, rfl, rfl⟩))
  have hst58 := de_at hacc hx47
  have ht58 : tot ((xs.set j5 (Acc.mk (f39 - n) g39)).set j5 (Acc.mk (f39 - n) (g39 + n))) = tot (xs.set j5 (Acc.mk (f39 - n) g39)) + ((f39 - n) + (g39 + n)) - ((f39 - n) + g39) := tot_set _ hst58
  have hinv58 : Inv ((xs.set j5 (Acc.mk (f39 - n) g39)).set j5 (Acc.mk (f39 - n) (g39 + n))) := Inv.set hinv49 hst58 _ (by show 0 ≤ (f39 - n); omega) (by show 0 ≤ (g39 + n); omega) (by show tot (xs.set j5 (Acc.mk (f39 - n) g39)) + ((f39 - n) + (g39 + n)) - ((f39 - n) + g39) ≤ 1073741824; omega)
  replace hacc := map_set (j := j5) hacc (f39 - n) (g39 + n) A39 c39 l39
  replace hall := DAll.set hall hx47 (f39 - n) (g39 + n)
  rw [List.set_set (α := DE)] at hacc hall
  exact Oer <| Oen [6] <| Rr (nt 0) ⟨by rw [hc4], ⟨F, by rw [show resX xs cs a n = addH (subF xs a n) a n from by unfold resX; rw [if_pos hc4], show subF xs a n = _ from by unfold subF; rw [setA_at hj5, acct_at hj5 hst49 hjl5], show addH (xs.set j5 (Acc.mk (f39 - n) g39)) a n = _ from by unfold addH; rw [setA_at hj5, acct_at hj5 hst58 hjl5]]; exact ⟨hinv58, hcl, hFx, fun q hq => Nat.lt_of_lt_of_le (hFlt q hq) (by omega), _, _, _, ⟨by simp only [List.length_set]; exact hx, At.slt hat55, hdx.own, hacc, hall⟩⟩, hF0⟩, hK0⟩
end Go.Al
namespace Go.Al
open Go Go.RowKit Go.Proofs
variable {a n : Int} {xs : List Acc}
theorem tk_neg (hi : Inv xs) (ha : isA a = true) (hn : n < 0) : tkN xs a n = 0 ∧ tkX xs a n = xs := by
  have hb := acct_bnd hi a
  have h0 : tkN xs a n = 0 := by unfold tkN imax imin; rw [if_pos ha]; split <;> (try split) <;> omega
  refine ⟨h0, ?_⟩
  unfold tkX; rw [if_pos ha, h0, subH_0 hi a ha]
theorem tk_no (ha : isA a = false) : tkN xs a n = 0 ∧ tkX xs a n = xs := by
  unfold tkX tkN; rw [ha]; exact ⟨rfl, rfl⟩
theorem tk_yes (hi : Inv xs) (ha : isA a = true) (hn : ¬ n < 0) : tkN xs a n = imin n (acct xs a).held ∧ 0 ≤ imin n (acct xs a).held ∧ imin n (acct xs a).held ≤ (acct xs a).held := by
  have hb := acct_bnd hi a
  unfold tkN; rw [if_pos ha]
  unfold imax imin; split <;> (try split) <;> omega
set_option maxHeartbeats 1000000 in
theorem take6_at (F : Nat → Prop) (x : Nat) (xs : List Acc) (cs : List Ci) (a n : Int) (w : World) (h : DLd F w x xs cs) : Calls Tryz.prog 100 #[pt x, nt a, nt n] w fun e w' => e = .returned (nt (tkN xs a n)) ∧ DLd F w' x (tkX xs a n) cs ∧ Keep F w w' := by
 have hFlt := DLd.lt h
 have hxlt := hFlt _ (DLd.at_ h)
 have hinv := DLd.inv h
 have htot1 := hinv.2.2
 have htot0 := (tot_mem hinv.2.1).1
 have hF0 : ∀ q, F q → F q ∨ w.heap.size ≤ q := fun _ h => .inl h
 have hK0 := Keep.refl F w
 refine eV ?_
 refine Vr <| On 1 [0, 1, 2] <| Oe <| V_seq <| Vr <| On 1 [0, 1, 2, 7] <| Kq (is6_spec a _) <| Os 4 [(0, pt x),(1, nt a),(2, nt n),(10, .bool (!(isA a)))] ?_
 cases hg6 : (!(isA a))
 ·
  refine OI_eq [(0, pt x),(1, nt a),(2, nt n),(10, .bool false)] (by first | rfl | rw [hg6]) <| Oen [0, 1, 2, 13] <| Vi (n < 0) (fun hc7 => ?_) (fun hc7 => ?_)
  ·
   refine Vn [6] <| Rt ?_
   obtain ⟨ht1, ht2⟩ : tkN xs a n = 0 ∧ tkX xs a n = xs := tk_neg hinv (by simpa using hg6) hc7
   exact Xr (nt 0) ⟨by rw [ht1], by rw [ht2]; exact h, hK0⟩
  have hsa : isA a = true := by simpa using hg6
  obtain ⟨htk1, htk2, htk3⟩ := tk_yes hinv hsa hc7
  obtain ⟨_, hcl, hFx, _, A, cap, ds, hdx⟩ := h
  have hx := hdx.blk
  have hA := hdx.sl
  have hacc := hdx.acc
  have hall := hdx.all
  have hAx : ∀ q, inA A q → q ≠ x := fun q hq => (hdx.own q hq).2
  have hAlt := SlT.lt hA
  have hdl := de_len hacc hinv
  have hcl1 := hcl.1
  have hFlt9 : ∀ q, F q → q < w.heap.size := ltm hFlt
  obtain ⟨j8, hj8, hjl8⟩ : ∃ j : Nat, a = j ∧ j < 10 := ⟨(a).toNat, by have h9 := hsa; simp only [isA, decide_eq_true_eq] at h9; omega, by have h9 := hsa; simp only [isA, decide_eq_true_eq] at h9; omega⟩
  refine Vsk <| Vr <| On 4 [0, 1, 14, 17] <| Lr 0 (.slice A ds.length cap) hx <| On 6 [0, 1, 14, 18, 19] ?_
  obtain ⟨b9, o9, L9, T9, rfl, hat9⟩ := SlT.opn hA
  have hb9lt := hat9.blk.lt
  have hob10 := hAx b9 ⟨_, rfl, rfl⟩
  have hob11 := hAlt b9 ⟨_, rfl, rfl⟩
  have hFb9 : b9 < w.heap.size := hFlt _ (hdx.own _ ⟨_, rfl, rfl⟩).1
  refine Op_ [(0, pt x),(1, nt a),(14, nt n),(18, sl_ b9 o9 ds.length cap),(19, nt a)] <| Oq (u := nt a) (v := nt (j8 : Int)) 19 (by rw [hj8]) <| Oi (b := b9) (o := o9) (len := ds.length) (cap := cap) (j := j8) (some 20) 109 (.tmp 18) (.tmp 19) 114 3 40 .i64 <| On 8 [0, 1, 14, 21] ?_
  obtain ⟨x12, hx13⟩ := exAt (xs := ds) (i := j8)
  obtain ⟨f14, g14, A14, c14, l14⟩ := x12
  obtain ⟨hls14, hsl14, hso14⟩ := hall j8 _ hx13
  replace hls14 : l14 = rowL (j8 : Int) cs := hls14
  replace hsl14 : SlT w 2 lkc A14 c14 l14 := hsl14
  replace hso14 : ∀ q, inA A14 q → _ := hso14
  obtain ⟨hbf14, hbh14, hbt14, _⟩ := hinv.at_ (de_at hacc hx13)
  replace hbf14 : 0 ≤ f14 := hbf14
  replace hbh14 : 0 ≤ g14 := hbh14
  replace hbt14 : f14 + g14 ≤ 1073741824 := hbt14
  have hsw14 : ∀ q, inA A14 q → q ≠ x ∧ q ≠ b9 ∧ q < w.heap.size := fun q hq => ⟨(hso14 q hq).2.1, fun e => (hso14 q hq).2.2 ⟨_, rfl, e⟩, hFlt q (hso14 q hq).1⟩
  have hsx14 := SlT.lt hsl14
  have hac_a : acct xs a = ⟨f14, g14⟩ := by rw [hj8]; exact de_acct hacc hx13 hjl8
  rw [hac_a] at htk1 htk2 htk3; replace htk1 : tkN xs a n = imin n g14 := htk1; replace htk2 : 0 ≤ imin n g14 := htk2; replace htk3 : imin n g14 ≤ g14 := htk3
  refine Lc (o9 + j8 * 3 + 1) (nt g14) hat9.blk (At.cell hat9 (es_at hx13) rfl) <| Oen [0, 1, 2] <| V_seq <| Vd1 (acts [12, 17]) (only b9) [5, 6, 7, 8, 9, 10, 11, 12, 0, 1, 2, 3, 4, 13, 14, 15, 16, 17] fun w16 hk15 he17 K20 _ => ?_
  replace hx := hx.k0 hk15
  replace hat9 := hat9.keep hk15 id
  replace hK0 := hK0.tn hk15
  replace hall := DAll.keep hall hk15 (fun _ _ _ _ f => f)
  have qhx := hx
  refine Gn [8, 9, 10, 11, 12, 0, 1, 2, 3, 4, 13, 14, 15, 16, 17] [0, 1, 2, 31] <| Mc 0 (sl_ b9 o9 ds.length cap) qhx (by show ¬ (_ = _); omega) rfl <| Gn [10, 11, 12, 0, 1, 2, 3, 4, 13, 14, 15, 16, 17] [0, 1, 2, 32, 33] <| Gp_ [(0, pt x),(1, nt a),(2, nt (imin n g14)),(32, sl_ b9 o9 ds.length cap),(33, nt a)] <| Gq_ (u := nt a) (v := nt (j8 : Int)) 33 (by rw [hj8]) <| Gi (b := b9) (o := o9) (len := ds.length) (cap := cap) (j := j8) 114 3 40 .i64 <| Gn [12, 0, 1, 2, 3, 4, 13, 14, 15, 16, 17] [0, 1, 2, 35] <| GI_cellA 3 (.tmp 35) (o9 + j8 * 3 + 1) (nt g14) (some 36) (by kernel_rfl) (by kernel_rfl) K20 (by kernel_rfl) hat9.blk (m := 1) (by kernel_rfl) (At.cell hat9 (es_at hx13) rfl) <| Gn [3, 4, 13, 14, 15, 16, 17] [1, 2, 26, 36] <| Mc 0 (sl_ b9 o9 ds.length cap) qhx (by show ¬ (_ = _); omega) rfl ?_
  have hw21 : i64.wrap (g14 - (imin n g14)) = g14 - (imin n g14) := wrp
  refine Gs [15, 16, 17] [(2, nt (imin n g14)),(27, sl_ b9 o9 ds.length cap),(28, nt a),(38, nt (i64.wrap (g14 - (imin n g14))))] <| Gq_ (u := nt (i64.wrap (g14 - (imin n g14)))) (v := nt (g14 - (imin n g14))) 38 (by rw [hw21]) <| Gp_ [(2, nt (imin n g14)),(27, sl_ b9 o9 ds.length cap),(28, nt a),(38, nt (g14 - (imin n g14)))] <| Gq_ (u := nt a) (v := nt (j8 : Int)) 28 (by rw [hj8]) <| Gi (b := b9) (o := o9) (len := ds.length) (cap := cap) (j := j8) 114 3 40 .i64 <| Gn [17] [2, 38, 40] <| GI_final 17 (by kernel_rfl) (by kernel_rfl) <| Ts1 (DE.mk f14 (g14 - (imin n g14)) A14 c14 l14 : DE) 1 (nt (g14 - (imin n g14))) hat9 hx13 (by simp [DE.cells, over]) ?_
  intro w22 hat26 hk24 hz25 hlhx27 hx27
  have hsz28 := Keep.size hk24
  replace hx := hx.k1 hk24
  replace hK0 := Keep.fresh hK0 hk24 (by intro i hi hs; have hs2 : i = b9 := hs; first | (exfalso; omega) | (rw [hs2]; exact (hdx.own _ ⟨_, rfl, rfl⟩).1))
  replace hall := DAll.keep hall hk24 (fun q h1 h2 h3 hs => by have hs : q = b9 := hs; exact h3 (hs ▸ ⟨_, rfl, rfl⟩))
  have hst29 := de_at hacc hx13
  have ht29 : tot (xs.set j8 (Acc.mk f14 (g14 - (imin n g14)))) = tot xs + (f14 + (g14 - (imin n g14))) - (f14 + g14) := tot_set _ hst29
  have hinv29 : Inv (xs.set j8 (Acc.mk f14 (g14 - (imin n g14)))) := Inv.set hinv hst29 _ (by show 0 ≤ f14; omega) (by show 0 ≤ (g14 - (imin n g14)); omega) (by show tot xs + (f14 + (g14 - (imin n g14))) - (f14 + g14) ≤ 1073741824; omega)
  replace hacc := map_set (j := j8) hacc f14 (g14 - (imin n g14)) A14 c14 l14
  replace hall := DAll.set hall hx13 f14 (g14 - (imin n g14))
  exact Oer <| Oen [6] <| Rr (nt (imin n g14)) ⟨by rw [htk1], by rw [show tkX xs a n = (xs.set j8 (Acc.mk f14 (g14 - (imin n g14)))) from by unfold tkX; rw [if_pos hsa, htk1]; unfold subH; rw [setA_at hj8, hac_a]]; exact ⟨hinv29, hcl, hFx, fun q hq => Nat.lt_of_lt_of_le (hFlt q hq) (by omega), _, _, _, ⟨by simp only [List.length_set]; exact hx, At.slt hat26, hdx.own, hacc, hall⟩⟩, hK0⟩
 refine OI_eq [(0, pt x),(1, nt a),(2, nt n),(10, .bool true)] (by first | rfl | rw [hg6]) <| Oen [0, 1, 2, 13] <| Vo <| Vn [6] <| Rt ?_
 obtain ⟨ht1, ht2⟩ : tkN xs a n = 0 ∧ tkX xs a n = xs := tk_no (by simpa using hg6)
 exact Xr (nt 0) ⟨by rw [ht1], by rw [ht2]; exact h, hK0⟩
theorem slX_eq {f g : Int} (hi : Inv xs) (h : (tkX xs a n)[0]? = some ⟨f, g⟩) : slX xs a n = (tkX xs a n).set 0 (Acc.mk (f + tkN xs a n) g) := by
  have hb := tkN_bnd hi a n
  unfold slX
  split
  · unfold addF; rw [setA_at (rfl : (0 : Int) = ((0 : Nat) : Int)), acct_at (rfl : (0 : Int) = ((0 : Nat) : Int)) h (by decide)]
  · obtain ⟨h1, h2⟩ := List.getElem?_eq_some_iff.1 h
    rw [show f + tkN xs a n = f by omega, ← h2, List.set_getElem_self]
set_option maxHeartbeats 1000000 in
theorem slash6_spec (F : Nat → Prop) (x : Nat) (xs : List Acc) (cs : List Ci) (a n : Int) (w : World) (h : DLd F w x xs cs) : Calls Tryz.prog 69 #[pt x, nt a, nt n] w fun e w' => e = .returned (nt (tkN xs a n)) ∧ (∃ F', DLd F' w' x (slX xs a n) (cs) ∧ (∀ q, F' q → F q ∨ w.heap.size ≤ q)) ∧ Keep F w w' := by
 have hFlt := DLd.lt h
 have hxlt := hFlt _ (DLd.at_ h)
 have hinv := DLd.inv h
 have htot1 := hinv.2.2
 have htot0 := (tot_mem hinv.2.1).1
 have hF0 : ∀ q, F q → F q ∨ w.heap.size ≤ q := fun _ h => .inl h
 have hK0 := Keep.refl F w
 refine eV ?_
 refine Vr <| On 1 [0, 1, 2] <| Oer <| On 3 [0, 7, 8, 9] <| Kg (take6_at F x xs cs a n _ h) ?_
 rintro _ w1 ⟨rfl, h9, hk2⟩
 refine ⟨_, rfl, ?_⟩
 have hsz3 := Keep.size hk2
 replace hK0 := Keep.fresh hK0 hk2 (by intro i hi hs; first | exact hs | (exfalso; have h2 := hFlt i hs; omega) | (have h2 := hFlt i hs; show _ ∨ _; omega))
 have hFlt8 := DLd.lt h9
 refine Oen [0, 2] <| V_seq ?_
 have hinvt := DLd.inv h9
 have htx := tkX_tot hinv a n
 have htn := tkN_bnd hinv a n
 have htb := acct_bnd hinv a
 obtain ⟨_, hcl, hFx, _, A, cap, ds, hdx⟩ := h9
 have hx := hdx.blk
 have hA := hdx.sl
 have hacc := hdx.acc
 have hall := hdx.all
 have hAx : ∀ q, inA A q → q ≠ x := fun q hq => (hdx.own q hq).2
 have hAlt := SlT.lt hA
 have hdl := de_len hacc hinvt
 have hcl1 := hcl.1
 have h10 : 0 < ds.length := by omega
 obtain ⟨b4, o4, L4, T4, rfl, hat4⟩ := SlT.opn hA
 have hb4lt := hat4.blk.lt
 have hob5 := hAx b4 ⟨_, rfl, rfl⟩
 have hob6 := hAlt b4 ⟨_, rfl, rfl⟩
 have hFb4 : b4 < w.heap.size := hFlt _ (hdx.own _ ⟨_, rfl, rfl⟩).1
 refine Vd1 (acts [10, 15]) (only b4) [4, 5, 6, 7, 8, 9, 10, 0, 1, 2, 3, 11, 12, 13, 14, 15] fun w8 hk7 he9 K12 _ => ?_
 replace hx := hx.k0 hk7
 replace hat4 := hat4.keep hk7 id
 replace hK0 := hK0.tn hk7
 replace hall := DAll.keep hall hk7 (fun _ _ _ _ f => f)
 have qhx := hx
 refine Gn [7, 8, 9, 10, 0, 1, 2, 3, 11, 12, 13, 14, 15] [0, 2, 17] <| Mc 0 (sl_ b4 o4 ds.length cap) qhx (by show ¬ (_ = _); omega) rfl <| GI_pure (some 19) (.indexAddr 109 (.tmp 18) (.const (Value.int IntKind.i64 0))) (by kernel_rfl) (by kernel_rfl) (pure_idxN (b := b4) (o := o4) (len := ds.length) (cap := cap) (kd := .i64) (j := 0) (E := 114) (sz := 3) (by_ := 40) (by kernel_rfl) (by kernel_rfl) (by kernel_rfl) (by omega)) <| Gn [10, 0, 1, 2, 3, 11, 12, 13, 14, 15] [0, 2, 20] ?_
 obtain ⟨x13, hx14⟩ := exAt (xs := ds) (i := 0)
 obtain ⟨f15, g15, A15, c15, l15⟩ := x13
 obtain ⟨hls15, hsl15, hso15⟩ := hall 0 _ hx14
 replace hls15 : l15 = rowL ((0 : Nat) : Int) cs := hls15
 replace hsl15 : SlT w8 2 lkc A15 c15 l15 := hsl15
 replace hso15 : ∀ q, inA A15 q → _ := hso15
 obtain ⟨hbf15, hbh15, hbt15, _⟩ := hinvt.at_ (de_at hacc hx14)
 replace hbf15 : 0 ≤ f15 := hbf15
 replace hbh15 : 0 ≤ g15 := hbh15
 replace hbt15 : f15 + g15 ≤ 1073741824 := hbt15
 have hsw15 : ∀ q, inA A15 q → q ≠ x ∧ q ≠ b4 ∧ q < w.heap.size := fun q hq => ⟨(hso15 q hq).2.1, fun e => (hso15 q hq).2.2 ⟨_, rfl, e⟩, hFlt q (hso15 q hq).1⟩
 have hsx15 := SlT.lt hsl15
 refine GI_cellA 3 (.tmp 20) (o4 + 0 * 3) (nt f15) (some 21) (by kernel_rfl) (by kernel_rfl) K12 (by kernel_rfl) hat4.blk (m := 1) (by kernel_rfl) (At.cell0 hat4 (es_at hx14) rfl) <| Gn [3, 11, 12, 13, 14, 15] [2, 13, 21] <| Mc 0 (sl_ b4 o4 ds.length cap) qhx (by show ¬ (_ = _); omega) rfl ?_
 have hw16 : i64.wrap (f15 + (tkN xs a n)) = f15 + (tkN xs a n) := wrp
 refine Gn [13, 14, 15] [2, 14, 23] <| Gq_ (u := nt (i64.wrap (f15 + (tkN xs a n)))) (v := nt (f15 + (tkN xs a n))) 23 (by rw [hw16]) <| GI_pure (some 24) (.indexAddr 109 (.tmp 14) (.const (Value.int IntKind.i64 0))) (by kernel_rfl) (by kernel_rfl) (pure_idxN (b := b4) (o := o4) (len := ds.length) (cap := cap) (kd := .i64) (j := 0) (E := 114) (sz := 3) (by_ := 40) (by kernel_rfl) (by kernel_rfl) (by kernel_rfl) (by omega)) <| Gn [15] [2, 23, 25] <| GI_final 15 (by kernel_rfl) (by kernel_rfl) <| Ts1 (DE.mk (f15 + (tkN xs a n)) g15 A15 c15 l15 : DE) 0 (nt (f15 + (tkN xs a n))) hat4 hx14 (by simp [DE.cells, over]) ?_
 intro w17 hat21 hk19 hz20 hlhx22 hx22
 have hsz23 := Keep.size hk19
 replace hx := hx.k1 hk19
 replace hK0 := Keep.fresh hK0 hk19 (by intro i hi hs; have hs2 : i = b4 := hs; first | (exfalso; omega) | (rw [hs2]; exact (hdx.own _ ⟨_, rfl, rfl⟩).1))
 replace hall := DAll.keep hall hk19 (fun q h1 h2 h3 hs => by have hs : q = b4 := hs; exact h3 (hs ▸ ⟨_, rfl, rfl⟩))
 have hst24 := de_at hacc hx14
 have ht24 : tot ((tkX xs a n).set 0 (Acc.mk (f15 + (tkN xs a n)) g15)) = tot (tkX xs a n) + ((f15 + (tkN xs a n)) + g15) - (f15 + g15) := tot_set _ hst24
 have hinv24 : Inv ((tkX xs a n).set 0 (Acc.mk (f15 + (tkN xs a n)) g15)) := Inv.set hinvt hst24 _ (by show 0 ≤ (f15 + (tkN xs a n)); omega) (by show 0 ≤ g15; omega) (by show tot (tkX xs a n) + ((f15 + (tkN xs a n)) + g15) - (f15 + g15) ≤ 1073741824; omega)
 replace hacc := map_set (j := 0) hacc (f15 + (tkN xs a n)) g15 A15 c15 l15
 replace hall := DAll.set hall hx14 (f15 + (tkN xs a n)) g15
 exact Oer <| Oen [6] <| Rr (nt (tkN xs a n)) ⟨rfl, ⟨F, by rw [show slX xs a n = ((tkX xs a n).set 0 (Acc.mk (f15 + (tkN xs a n)) g15)) from slX_eq hinv hst24]; exact ⟨hinv24, hcl, hFx, fun q hq => Nat.lt_of_lt_of_le (hFlt q hq) (by omega), _, _, _, ⟨by simp only [List.length_set]; exact hx, At.slt hat21, hdx.own, hacc, hall⟩⟩, hF0⟩, hK0⟩
end Go.Al
namespace Go.Al
open Go Go.RowKit Go.Proofs
def castc (c : Int × Vt) : List Value := nt c.1 :: c.2.cells
def dst (n : Int) : Int := if n = 0 then 1 else n
def pT (x : Option PollS) : PollS := x.getD ⟨0, Tly.zero, 0, 0⟩
def pSt (x : Option PollS) : Int := match x with | none => 0 | some q => dst q.state
def dpc (x : Option PollS) : List Value := [.bool x.isSome, nt (pT x).track, nt (pSt x), nt (pT x).stop, nt (pT x).t.a, nt (pT x).t.n, nt (pT x).t.s]
theorem dpc_len (x : Option PollS) : (dpc x).length = 7 := rfl
def dTo (r : RecS) : Int := (r.d.map DelS.to).getD 0
def dLv (r : RecS) : Int := (r.d.map DelS.level).getD 0
def dN (r : RecS) : Int := (r.d.map DelS.n).getD 0
structure DR where
  A : Option Addr
  cap : Nat
  ls : List (Int × Vt)
  on : Bool
  to : Int
  level : Int
  n : Int
  gv : Int
  gc : Int
  till : Int
  pr : Int
def DR.cells (d : DR) : List Value := [.slice d.A d.ls.length d.cap, .bool d.on, nt d.to, nt d.level, nt d.n, nt d.gv, nt d.gc, nt d.till, nt d.pr]
theorem DR.len (d : DR) : d.cells.length = 9 := rfl
def DR.of (A : Option Addr) (cap : Nat) (ls : List (Int × Vt)) (r : RecS) : DR := ⟨A, cap, ls, r.d.isSome, dTo r, dLv r, dN r, r.got.v, r.got.c, r.till, r.n⟩
def rcJ (s : VS) (j : Nat) : RecS := s.rc ((j / 4 : Nat) : Int) ((j % 4 : Nat) : Int)
def vrJ (s : VS) (j : Nat) : List (Int × Vt) := vrow s ((j / 4 : Nat) : Int) ((j % 4 : Nat) : Int)
def RAll (F : Nat → Prop) (w : World) (y bP bR : Nat) (rs : List DR) (s : VS) : Prop := ∀ (j : Nat) (d : DR), rs[j]? = some d → d = DR.of d.A d.cap (vrJ s j) (rcJ s j) ∧ SlT w 7 castc d.A d.cap (vrJ s j) ∧ ∀ q, inA d.A q → F q ∧ q ≠ y ∧ q ≠ bP ∧ q ≠ bR
structure DvX (F : Nat → Prop) (w : World) (y bP oP cP bR oR cR : Nat) (rs : List DR) (s : VS) : Prop where
  blk : Blk w y [sl_ bP oP 12 cP, sl_ bR oR 40 cR] 134
  pl : ∃ L T, At w bP oP L T 7 cP (s.ps.map dpc)
  rl : ∃ L T, At w bR oR L T 9 cR (rs.map DR.cells)
  ne : y ≠ bP ∧ y ≠ bR ∧ bP ≠ bR
  own : F y ∧ F bP ∧ F bR
  rlen : rs.length = 40
  all : RAll F w y bP bR rs s
def StOk (s : VS) : Prop := ∀ (i : Nat) q, s.ps[i]? = some (some q) → q.state ≠ 1
structure DInv (s : VS) : Prop where
  inv : s.Inv
  trk : TrkOk s
  st : StOk s
  srt : GV.Srt s.cs
theorem DInv.len {s : VS} (h : DInv s) : s.cs.length ≤ 120 := GV.len120 h.srt (fun c hc => by obtain ⟨g1, g2, _⟩ := h.inv.votes c hc; exact ⟨g1, g2⟩)
def DVt (F : Nat → Prop) (w : World) (y : Nat) (s : VS) : Prop := DInv s ∧ (∀ q, F q → q < w.heap.size) ∧ ∃ bP oP cP bR oR cR rs, DvX F w y bP oP cP bR oR cR rs s
section
variable {F S : Nat → Prop} {w w' : World} {y bP oP cP bR oR cR j : Nat} {rs : List DR} {s s' : VS} {d : DR}
theorem DVt.lt (h : DVt F w y s) : ∀ q, F q → q < w.heap.size := h.2.1
theorem DVt.at_ (h : DVt F w y s) : F y := by
  obtain ⟨_, _, _, _, _, _, _, _, _, h⟩ := h; exact h.own.1
theorem RAll.keep (h : RAll F w y bP bR rs s) (k : Keep S w w') (hS : ∀ q, F q → q ≠ y → q ≠ bP → q ≠ bR → ¬ S q) : RAll F w' y bP bR rs s := fun j d hd => by
  obtain ⟨h1, h2, h3⟩ := h j d hd
  exact ⟨h1, h2.keep k (fun q hq => hS q (h3 q hq).1 (h3 q hq).2.1 (h3 q hq).2.2.1 (h3 q hq).2.2.2), h3⟩
theorem DvX.keep (h : DvX F w y bP oP cP bR oR cR rs s) (k : Keep S w w') (hS : ∀ q, F q → ¬ S q) : DvX F w' y bP oP cP bR oR cR rs s :=
  ⟨h.blk.keep k (hS _ h.own.1),(by obtain ⟨L, T, h1⟩ := h.pl; exact ⟨L, T, h1.keep k (hS _ h.own.2.1)⟩),(by obtain ⟨L, T, h1⟩ := h.rl; exact ⟨L, T, h1.keep k (hS _ h.own.2.2)⟩), h.ne, h.own, h.rlen, h.all.keep k (fun q hq _ _ _ => hS q hq)⟩
theorem DVt.keep (h : DVt F w y s) (k : Keep S w w') (hS : ∀ q, F q → ¬ S q) : DVt F w' y s := by
  obtain ⟨h0, h1, bP, oP, cP, bR, oR, cR, rs, h2⟩ := h
  exact ⟨h0, fun q hq => Nat.lt_of_lt_of_le (h1 q hq) k.size, bP, oP, cP, bR, oR, cR, rs, h2.keep k hS⟩
theorem At.quiet9 {α : Type} {b o sz cap N : Nat} {L : List Value} {T : TypeId} {f : α → List Value} {xs : List α} (h : At w b o L T sz cap (xs.map f)) (k : Keep (lb N w) w w') : At w' b o L T sz cap (xs.map f) := ⟨h.blk.quiet k, h.le, h.room, h.cells, h.sizes⟩
theorem DVt.quiet {N : Nat} (h : DVt F w y s) (k : Keep (lb N w) w w') : DVt F w' y s := by
  obtain ⟨h0, h1, bP, oP, cP, bR, oR, cR, rs, h2⟩ := h
  exact ⟨h0, fun q hq => Nat.lt_of_lt_of_le (h1 q hq) k.size, bP, oP, cP, bR, oR, cR, rs, h2.blk.quiet k, (by obtain ⟨L, T, h3⟩ := h2.pl; exact ⟨L, T, h3.quiet9 k⟩),(by obtain ⟨L, T, h3⟩ := h2.rl; exact ⟨L, T, h3.quiet9 k⟩), h2.ne, h2.own, h2.rlen, fun j d hd => ⟨(h2.all j d hd).1, (h2.all j d hd).2.1.quiet k, (h2.all j d hd).2.2⟩⟩
theorem RAll.same (h : RAll F w y bP bR rs s) (h1 : ∀ a t, s'.rc a t = s.rc a t) (h2 : ∀ a t, vrow s' a t = vrow s a t) : RAll F w y bP bR rs s' := fun j d hd => by
  rw [show vrJ s' j = vrJ s j from h2 _ _, show rcJ s' j = rcJ s j from h1 _ _]
  exact h j d hd
theorem RAll.set {F' : Nat → Prop} (h : RAll F w y bP bR rs s) (hF : ∀ q, F q → F' q) (A : Option Addr) (cap : Nat) (hsl : SlT w 7 castc A cap (vrJ s' j)) (hown : ∀ q, inA A q → F' q ∧ q ≠ y ∧ q ≠ bP ∧ q ≠ bR) (hoth : ∀ i, i ≠ j → i < rs.length → vrJ s' i = vrJ s i ∧ rcJ s' i = rcJ s i) {e : DR} (he : e = DR.of A cap (vrJ s' j) (rcJ s' j)) : RAll F' w y bP bR (rs.set j e) s' := fun i d hd => by
  by_cases hij : i = j
  · subst hij
    by_cases hl : i < rs.length
    · rw [List.getElem?_set_self hl] at hd
      simp only [Option.some.injEq] at hd
      subst hd he
      exact ⟨rfl, hsl, hown⟩
    · rw [List.getElem?_eq_none (by rw [List.length_set]; omega)] at hd; cases hd
  · rw [List.getElem?_set_ne (Ne.symm hij)] at hd
    obtain ⟨e1, e2⟩ := hoth i hij (List.getElem?_eq_some_iff.1 hd).1
    rw [e1, e2]
    obtain ⟨h1, h2, h3⟩ := h i d hd
    exact ⟨h1, h2, fun q hq => ⟨hF q (h3 q hq).1, (h3 q hq).2⟩⟩
theorem pollAt_some {ref : Int} {q : PollS} (h : pollAt s ref = some q) : ∃ i : Nat, ref = i ∧ i < 12 ∧ s.ps[i]? = some (some q) := by
  unfold pollAt at h
  split at h
  · rename_i hr
    obtain ⟨i, rfl⟩ : ∃ i : Nat, ref = i := ⟨ref.toNat, by omega⟩
    refine ⟨i, rfl, by omega, ?_⟩
    rw [Int.toNat_natCast] at h
    cases hx : s.ps[i]? with
    | none => rw [hx] at h; cases h
    | some x => rw [hx] at h; simpa using h
  · cases h
theorem pollAt_in {i : Nat} {x : Option PollS} (h : s.ps[i]? = some x) (hi : i < 12) : pollAt s (i : Int) = x := by
  unfold pollAt
  rw [if_pos (by omega), Int.toNat_natCast, h]; rfl
theorem pollAt_out {ref : Int} (h : ¬ (0 ≤ ref ∧ ref < 12)) : pollAt s ref = none := if_neg h
theorem dst_open {n : Int} (h : n ≠ 1) : (dst n = 1) = (n = 0) := by
  unfold dst
  by_cases h0 : n = 0
  · simp [h0]
  · simp [h0, h]
end
theorem dtrack_spec (t : Int) (w : World) : Calls Tryz.prog 81 #[nt t] w fun e w' => e = .returned (.bool (decide (0 ≤ t ∧ t < 4))) ∧ w' = w := by
 refine eV ?_
 refine Vr <| On 1 [0] <| Oer <| On 3 [0, 5] ?_
 by_cases hg1 : t ≥ 0
 ·
  exact Dt 5 hg1 <| Oen [2] <| Rr (.bool (decide (t < 4))) ⟨by congr 2; by_cases h1 : 0 ≤ t <;> simp [h1] <;> omega, rfl⟩
 exact Df 5 hg1 <| Oen [2] <| Rr (.bool false) ⟨by congr 2; by_cases h1 : 0 ≤ t <;> simp [h1] <;> omega, rfl⟩
theorem dopen_spec (y bP oP cP : Nat) (LP : List Value) (TP : TypeId) (s : VS) (i : Nat) (q : PollS) (v1 : Value) (w : World) (hy : Blk w y [sl_ bP oP 12 cP, v1] 134) (hP : At w bP oP LP TP 7 cP (s.ps.map dpc)) (hq : s.ps[i]? = some (some q)) (hst : q.state ≠ 1) (hpl : s.ps.length = 12) : Calls Tryz.prog 110 #[pt y, nt (i : Int)] w fun e w' => e = .returned (.bool (decide (q.state = 0))) ∧ Keep none_ w w' := by
 have hylt := hy.lt
 have hbPlt := hP.blk.lt
 have hil := (List.getElem?_eq_some_iff.1 hq).1
 have hK0 := Keep.refl none_ w
 refine eV ?_
 exact Vr <| On 1 [0, 1] <| Oer <| On 3 [1, 7] <| Lr 0 (sl_ bP oP 12 cP) hy <| On 5 [8, 9] <| Oi (b := bP) (o := oP) (len := 12) (cap := cP) (j := i) (some 10) 131 (.tmp 8) (.tmp 9) 171 7 56 .i64 <| On 7 [11] <| Lc (oP + i * 7 + 2) (nt (dst q.state)) hP.blk (At.cell hP (es_at hq) rfl) <| Oen [4] <| Rr (.bool (decide (dst q.state = 1))) ⟨by simp only [dst_open hst], hK0⟩
theorem dhas_spec (F : Nat → Prop) (y : Nat) (s : VS) (ref : Int) (w : World) (h : DVt F w y s) : Calls Tryz.prog 56 #[pt y, nt ref] w fun e w' => e = .returned (.bool (pollAt s ref).isSome) ∧ Keep none_ w w' := by
 obtain ⟨hdi, hFlt, bP, oP, cP, bR, oR, cR, rs, hdv⟩ := h
 obtain ⟨LP, TP, hP⟩ := hdv.pl
 obtain ⟨LR, TR, hR⟩ := hdv.rl
 have hy := hdv.blk
 obtain ⟨hyP, hyR, hPR⟩ := hdv.ne
 have hylt := hy.lt
 have hbPlt := hP.blk.lt
 have hbRlt := hR.blk.lt
 have hpl : s.ps.length = 12 := hdi.inv.len
 have hrl := hdv.rlen
 have hra := hdv.all
 have hF0 : ∀ q, F q → F q ∨ w.heap.size ≤ q := fun _ h => .inl h
 have hK0 := Keep.refl none_ w
 refine eV ?_
 refine Vr <| On 1 [0, 1] <| Oer <| On 3 [0, 1, 7] ?_
 by_cases hg1 : ref ≥ 0
 ·
  refine Dt 7 hg1 <| On 7 [0, 1, 11] ?_
  by_cases hg2 : ref < 12
  ·
   obtain ⟨j3, hj3, hjl3⟩ : ∃ j : Nat, ref = j ∧ j < 12 := ⟨(ref).toNat, by omega, by omega⟩
   refine Dt 11 hg2 <| On 10 [1, 11, 14] <| Lr 0 (sl_ bP oP 12 cP) hy <| On 12 [11, 15, 16] <| Op_ [(11, .bool true),(15, sl_ bP oP 12 cP),(16, nt ref)] <| Oq (u := nt ref) (v := nt (j3 : Int)) 16 (by rw [hj3]) <| Oi (b := bP) (o := oP) (len := 12) (cap := cP) (j := j3) (some 17) 131 (.tmp 15) (.tmp 16) 171 7 56 .i64 <| On 14 [11, 18] ?_
   obtain ⟨x4, hx5⟩ := exAt (xs := s.ps) (i := j3)
   exact Lc (oP + j3 * 7) (.bool x4.isSome) hP.blk (At.cell0 hP (es_at hx5) rfl) <| Oen [4] <| Rr (.bool x4.isSome) ⟨by rw [hj3, pollAt_in hx5 (by omega)], hK0⟩
  exact Df 11 hg2 <| Oen [4] <| Rr (.bool false) ⟨by rw [pollAt_out (by omega)]; rfl, hK0⟩
 exact Df 7 hg1 <| Oen [4] <| Rr (.bool false) ⟨by rw [pollAt_out (by omega)]; rfl, hK0⟩
end Go.Al
