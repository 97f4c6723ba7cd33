/-
  Put together out of 2 texts: The laws of refer: so many are decided at once. Walks of the laws of refer: so many are decided at once.
-/
import Derived.Test.YtjjfimbihdoknaaGreatReferQueueB7
open Go.IntKind (i64)
set_option maxRecDepth 10000
namespace Go.Al
open Go Go.RowKit Go.Proofs
variable {a m : Int} {cs : List Ci} {i : Nat} {key : Int → Int} {l : List Int} {q : RW}
def quT (m : Int) : Trk := { plainT with most := m }
theorem qu_ok (h : 1 ≤ m ∧ m ≤ 4) : okTs [quT m] := by
  refine ⟨Nat.le_refl 1, (by decide : 1 ≤ 4), fun t ht => ?_⟩
  rw [List.mem_singleton.1 ht]
  exact ⟨(by omega : (1 : Int) ≤ m ∧ m ≤ 12),(by decide : (0 : Int) ≤ 20 ∧ (20 : Int) ≤ 1073741824),(by decide : (0 : Int) ≤ 50 ∧ (50 : Int) ≤ 1073741824),(by decide : (0 : Int) ≤ 2 ∧ (2 : Int) ≤ 1000),(by decide : (0 : Int) ≤ 3 ∧ (3 : Int) ≤ 1000),(by decide : (0 : Int) ≤ 1 ∧ (1 : Int) ≤ 1000),(by decide : (1 : Int) ≤ 10 ∧ (10 : Int) ≤ 1000),
    (by decide : okCrv ⟨1, 500000000, 500000000, 1, 0⟩),(by decide : okCrv ⟨1, 100000000, 100000000, 1, 0⟩),(by decide : (0 : Int) ≤ 2 ∧ (2 : Int) ≤ 2)⟩
theorem qdel_mem {a b : Int} {y : Ci} : ∀ {cs : List Ci}, y ∈ delC a b cs → y ∈ cs
  | [], h => h
  | x :: l, h => by
    simp only [delC] at h
    split at h
    · exact List.mem_cons_of_mem _ h
    · rcases List.mem_cons.1 h with rfl | h
      · exact List.mem_cons_self ..
      · exact List.mem_cons_of_mem _ (qdel_mem h)
theorem qdel_len (a b : Int) : ∀ cs : List Ci, (delC a b cs).length ≤ cs.length
  | [] => Nat.le_refl _
  | x :: l => by
    simp only [delC]
    split
    · simp
    · simp only [List.length_cons]; have := qdel_len a b l; omega
theorem qset_len (a b v : Int) : ∀ cs : List Ci, (setC a b v cs).length ≤ cs.length + 1
  | [] => Nat.le_refl _
  | x :: l => by
    simp only [setC]
    split
    · simp
    · split
      · simp only [List.length_cons]; have := qset_len a b v l; omega
      · simp
theorem qraise {t n : Int} (h : ∀ c ∈ cs, 3 ≤ c.a) (ha : 3 ≤ a) : (∀ c ∈ raiseC cs a t n, 3 ≤ c.a) ∧ (raiseC cs a t n).length ≤ cs.length + 1 := by
  unfold raiseC lockC
  split
  · exact ⟨h, by omega⟩
  · split
    · split
      · exact ⟨fun c hc => h c (qdel_mem hc), by have := qdel_len a t cs; omega⟩
      · refine ⟨fun c hc => ?_, qset_len a t n cs⟩
        rcases setC_mem hc with ⟨e, _⟩ | hc
        · omega
        · exact h c hc
    · exact ⟨h, by omega⟩
theorem qlocked (h : ∀ c ∈ cs, 3 ≤ c.a) (ha : a < 3) : lockedL cs a = 0 := by
  have e : rowL a cs = [] := by
    unfold rowL
    rw [List.filter_eq_nil_iff.2 (fun c hc => by have := h c hc; simp; omega)]; rfl
  unfold lockedL
  rw [e]; rfl
theorem qspends {xs : List Acc} {n : Int} (h : ∀ c ∈ cs, 3 ≤ c.a) (ha : a < 3) : spendsE xs cs a n = spendsE xs [] a n ∧ resX xs cs a n = resX xs [] a n := by
  have e : spendsE xs cs a n = spendsE xs [] a n := by
    unfold spendsE
    rw [qlocked h ha, qlocked (cs := []) (fun c hc => by cases hc) ha]
  exact ⟨e, by unfold resX; rw [e]⟩
def quX : Nat → List Acc
  | 0 => rfX
  | i + 1 => resX (resX (quX i) [] 1 10) [] 2 20
theorem qu_all : ((List.range 8).all fun i => decide (spendsE (quX i) [] 1 10 = 0 ∧ spendsE (resX (quX i) [] 1 10) [] 2 20 = 0 ∧ (acct (quX (i + 1)) 3).free = 1000 ∧ (acct (quX (i + 1)) 4).free = 1000 ∧ (acct (quX (i + 1)) 5).free = 1000 ∧ (acct (quX (i + 1)) 6).free = 1000)) = true := by kernel_rfl
theorem qu_at (h : i < 8) : spendsE (quX i) [] 1 10 = 0 ∧ spendsE (resX (quX i) [] 1 10) [] 2 20 = 0 ∧ (acct (quX (i + 1)) 3).free = 1000 ∧ (acct (quX (i + 1)) 4).free = 1000 ∧ (acct (quX (i + 1)) 5).free = 1000 ∧ (acct (quX (i + 1)) 6).free = 1000 := of_decide_eq_true (List.all_eq_true.1 qu_all i (List.mem_range.2 h))
def quR : Rfm := { newR 0 z0 0 0 1 with backer := 2 }
structure QI (m : Int) (i : Nat) (q : RW) : Prop where
  xs : q.xs = quX i
  rs : q.rs = List.replicate i quR
  cs : ∀ c ∈ q.cs, 3 ≤ c.a
  cl : q.cs.length ≤ i
  pl : ∀ j : Nat, i ≤ j → j < 12 → q.s.ps[j]? = some none
  ps : q.s.ps.length = 12
  rc : ∀ a t, (q.s.rc a t).d = none
theorem QI.zero (m : Int) : QI m 0 rwQ0 := ⟨rfl, rfl, fun c hc => (by cases hc), Nat.le_refl _, fun j _ hj => by
  show (List.replicate 12 (none : Option PollS))[j]? = some none
  rw [List.getElem?_replicate, if_pos hj], rfl, fun _ _ => rfl⟩
theorem qu_trk (m : Int) : trkO [quT m] 0 = some (quT m) := by kernel_rfl
theorem QI.len (h : QI m i q) : q.rs.length = i := by rw [h.rs, List.length_replicate]
def quP : PollS := ⟨0, Tly.zero, 0, 0⟩
theorem QI.sub (h : QI m i q) (hi : i < 8) : RW.subE [quT m] q 1 0 0 = 0 ∧ rwSub [quT m] q 1 0 0 z0 0 = ⟨resX (quX i) [] 1 10, q.cs, q.s.setP i quP, List.replicate i quR ++ [newR 0 z0 0 0 1]⟩ := by
  have hp : pollAt q.s (q.rs.length : Int) = none := by
    rw [h.len]; unfold pollAt
    rw [if_pos (by omega), Int.toNat_natCast, h.pl i (Nat.le_refl _) (by omega)]; rfl
  have hE : subE q.xs q.cs q.s [quT m] q.rs 1 0 0 = 0 := by
    unfold subE
    rw [qu_trk, hp, (qspends h.cs (by decide)).1, h.xs, (qu_at hi).1, if_neg (by rintro (h9 | h9); exact absurd h9 Bool.false_ne_true; omega), if_neg (by rw [h.len]; omega)]; rfl
  obtain ⟨h1, h2, h3⟩ := sub_go hE
  refine ⟨hE, ?_⟩
  show RW.mk (subX q.xs q.cs q.s [quT m] q.rs 1 0 0) q.cs (subS q.xs q.cs q.s [quT m] q.rs 1 0 0) (subR q.xs q.cs q.s [quT m] q.rs 1 0 0 z0 0) = _
  have ho : openS q.s (q.rs.length : Int) 0 = q.s.setP i quP := by
    have h9 : openE q.s (q.rs.length : Int) 0 = 0 := by
      unfold openE
      rw [hp, if_neg (by rw [h.len]; omega)]; rfl
    unfold openS
    rw [if_pos h9, h.len, Int.toNat_natCast]; rfl
  rw [h1, h2, h3, ho, h.rs, (qspends h.cs (by decide)).2, h.xs]
theorem QI.dep (h : QI m i q) (hi : i < 8) : RW.depE [quT m] (rwSub [quT m] q 1 0 0 z0 0) 2 (i : Int) = 0 ∧ rwDep [quT m] (rwSub [quT m] q 1 0 0 z0 0) 2 (i : Int) = ⟨quX (i + 1), q.cs, q.s.setP i quP, List.replicate (i + 1) quR⟩ := by
  rw [(h.sub hi).2]
  have hg : getR (List.replicate i quR ++ [newR 0 z0 0 0 1]) (i : Int) = some (newR 0 z0 0 0 1) := by
    unfold getR
    rw [if_pos ⟨by omega, by rw [List.length_append, List.length_replicate, List.length_singleton]; omega⟩, Int.toNat_natCast, List.getElem?_append_right (by rw [List.length_replicate]; exact Nat.le_refl _), List.length_replicate, Nat.sub_self]; rfl
  have ha : getA (List.replicate i quR ++ [newR 0 z0 0 0 1]) (i : Int) = newR 0 z0 0 0 1 := by unfold getA; rw [hg]; rfl
  have hd : (trkA [quT m] (newR 0 z0 0 0 1).track).deposit = 20 := by kernel_rfl
  have hE : depE (resX (quX i) [] 1 10) q.cs [quT m] (List.replicate i quR ++ [newR 0 z0 0 0 1]) 2 (i : Int) = 0 := by
    unfold depE
    rw [hg]
    dsimp only
    rw [hd, (qspends h.cs (by decide)).1, (qu_at hi).2.1, if_neg (by decide), if_neg (by decide)]
  obtain ⟨h1, h2⟩ := dep_go hE
  refine ⟨hE, ?_⟩
  show RW.mk (depX _ q.cs [quT m] _ 2 (i : Int)) q.cs _ (depR _ q.cs [quT m] _ 2 (i : Int)) = _
  rw [h1, h2, ha, hd, (qspends h.cs (by decide)).2, Int.toNat_natCast, List.set_append_right _ _ (by rw [List.length_replicate]; exact Nat.le_refl _), List.length_replicate, Nat.sub_self, List.replicate_succ']; rfl
def quV (a : Int) : Vt := ⟨1, true, 1, a, 0, 0⟩
theorem QI.next (h : QI m i q) {s : VS} {C : List Ci} (h1 : ∀ j, j ≠ i → s.ps[j]? = q.s.ps[j]?) (h2 : s.ps.length = 12) (h3 : s.rc = q.s.rc) (h4 : ∀ c ∈ C, 3 ≤ c.a) (h5 : C.length ≤ q.cs.length + 1) : QI m (i + 1) ⟨quX (i + 1), C, s, List.replicate (i + 1) quR⟩ :=
  ⟨rfl, rfl, h4, by have := h.cl; show C.length ≤ i + 1; omega, fun j hj hj2 => by show s.ps[j]? = _; rw [h1 j (by omega)]; exact h.pl j (by omega) hj2, h2, fun a t => by show (s.rc a t).d = none; rw [h3]; exact h.rc a t⟩
theorem QI.vote (h : QI m i q) (hi : i < 8) {who : Int} (hw : 3 ≤ who ∧ who ≤ 6) (ha : 0 ≤ a ∧ a ≤ 31) : (RW.votE (rwDep [quT m] (rwSub [quT m] q 1 0 0 z0 0) 2 (i : Int)) who (i : Int) (quV a) = 0 ∨ RW.votE (rwDep [quT m] (rwSub [quT m] q 1 0 0 z0 0) 2 (i : Int)) who (i : Int) (quV a) = 3) ∧ QI m (i + 1) (rwVot (rwDep [quT m] (rwSub [quT m] q 1 0 0 z0 0) 2 (i : Int)) who (i : Int) (quV a)) := by
  rw [(h.dep hi).2]
  have hps : (q.s.setP i quP).ps[i]? = some (some quP) := by show (q.s.ps.set i (some quP))[i]? = _; rw [List.getElem?_set_self (by rw [h.ps]; omega)]
  have hp : pollAt (q.s.setP i quP) (i : Int) = some quP := by
    unfold pollAt
    rw [if_pos (by omega), Int.toNat_natCast, hps]; rfl
  have hf : (acct (quX (i + 1)) who).free = 1000 := by
    obtain ⟨_, _, f3, f4, f5, f6⟩ := qu_at hi
    have : who = 3 ∨ who = 4 ∨ who = 5 ∨ who = 6 := by omega
    rcases this with rfl | rfl | rfl | rfl <;> assumption
  have hc : capI (quV a) = a := cf_cap (by omega)
  have hE : voteE (quX (i + 1)) (q.s.setP i quP) who (i : Int) (quV a) = 0 ∨ voteE (quX (i + 1)) (q.s.setP i quP) who (i : Int) (quV a) = 3 := by
    have hv : voteE (quX (i + 1)) (q.s.setP i quP) who (i : Int) (quV a) = if (GV.getC who (i : Int) (q.s.setP i quP).cs).isSome = false ∧ (((vrow (q.s.setP i quP) who quP.track).length : Nat) : Int) ≥ 6 then 3 else 0 := by
      unfold voteE
      rw [if_neg (by rintro (h9 | h9); exact h9 (by omega); exact h9 (cf_okV (by omega))), hp]
      dsimp only
      rw [if_neg (fun h9 => h9 rfl), if_neg (by show ¬ ((q.s.rc who 0).d).isSome = true; rw [h.rc]; decide), if_neg (by rw [hf, hc]; omega)]
    rw [hv]
    split
    · exact .inr rfl
    · exact .inl rfl
  refine ⟨hE, ?_⟩
  show QI m (i + 1) ⟨quX (i + 1), voteC (quX (i + 1)) q.cs (q.s.setP i quP) who (i : Int) (quV a), voteS (quX (i + 1)) (q.s.setP i quP) who (i : Int) (quV a), List.replicate (i + 1) quR⟩
  have hl1 : (q.s.setP i quP).ps.length = 12 := by show (q.s.ps.set i (some quP)).length = 12; rw [List.length_set]; exact h.ps
  have hj1 : ∀ j, j ≠ i → (q.s.setP i quP).ps[j]? = q.s.ps[j]? := fun j hj => List.getElem?_set_ne (fun e => hj e.symm)
  rcases hE with hE | hE
  · have e1 : voteC (quX (i + 1)) q.cs (q.s.setP i quP) who (i : Int) (quV a) = raiseC q.cs who quP.track (capI (quV a)) := by unfold voteC; rw [if_pos hE, hp]
    obtain ⟨r1, r2⟩ := qraise (t := quP.track) (n := capI (quV a)) h.cs hw.1
    rw [e1, voteS_go hE hp]
    refine h.next (fun j hj => ?_) ?_ rfl r1 r2
    · show ((q.s.setP i quP).ps.set (i : Int).toNat _)[j]? = _
      rw [Int.toNat_natCast, List.getElem?_set_ne (fun e => hj e.symm)]; exact hj1 j hj
    · show ((q.s.setP i quP).ps.set (i : Int).toNat _).length = 12
      rw [List.length_set]; exact hl1
  · have e1 : voteC (quX (i + 1)) q.cs (q.s.setP i quP) who (i : Int) (quV a) = q.cs := by unfold voteC; rw [if_neg (by rw [hE]; decide)]
    have e2 : voteS (quX (i + 1)) (q.s.setP i quP) who (i : Int) (quV a) = q.s.setP i quP := by unfold voteS; rw [if_neg (by rw [hE]; decide)]
    rw [e1, e2]
    exact h.next hj1 hl1 rfl h.cs (by omega)
theorem qu_who (i : Int) : 3 ≤ i64.wrap (3 + bAnd i 3) ∧ i64.wrap (3 + bAnd i 3) ≤ 6 := by
  have h := bAnd_le i 3 (by decide)
  have h1 : bAnd i 3 = bAnd i ((3 : Nat) : Int) := rfl
  rw [h1, wrap64_id (by omega) (by omega)]; omega
theorem qu_a (a : Int) : 0 ≤ bAnd a 31 ∧ bAnd a 31 ≤ 31 := bAnd_le a 31 (by decide)
theorem QI.lk (h : QI m i q) (hi : i < 8) : (rwDep [quT m] (rwSub [quT m] q 1 0 0 z0 0) 2 (i : Int)).cs.length < 100000 := by
  rw [(h.dep hi).2]
  have := h.cl
  show q.cs.length < 100000; omega
theorem QI.num (h : QI m i q) (hi : i < 8) : (if RW.subE [quT m] q 1 0 0 = 0 then (q.rs.length : Int) else 0) = (i : Int) := by rw [if_pos (h.sub hi).1, h.len]
def QP (key : Int → Int) (u v : Int) : Prop := key u < key v ∨ (key u = key v ∧ v < u)
theorem sink_all {key : Int → Int} {x z : Int} : ∀ {l : List Int}, z = x ∨ z ∈ l → z ∈ sink key x l
  | [], h => by
    rcases h with rfl | h
    · exact List.mem_singleton.2 rfl
    · cases h
  | y :: l, h => by
    simp only [sink]
    split
    · rcases h with h | h
      · exact List.mem_cons_of_mem _ (sink_all (.inl h))
      · rcases List.mem_cons.1 h with rfl | h
        · exact List.mem_cons_self ..
        · exact List.mem_cons_of_mem _ (sink_all (.inr h))
    · rcases h with rfl | h
      · exact List.mem_cons_self ..
      · exact List.mem_cons_of_mem _ h
theorem sink_pw {key : Int → Int} {x : Int} : ∀ {l : List Int}, (∀ y ∈ l, y < x) → l.Pairwise (QP key) → (sink key x l).Pairwise (QP key)
  | [], _, _ => List.pairwise_singleton _ _
  | y :: l, hx, h => by
    obtain ⟨h1, h2⟩ := List.pairwise_cons.1 h
    have hy := hx y (List.mem_cons_self ..)
    simp only [sink]
    split
    · rename_i hk
      refine List.pairwise_cons.2 ⟨fun z hz => ?_, sink_pw (fun z hz => hx z (List.mem_cons_of_mem _ hz)) h2⟩
      rcases sink_mem hz with rfl | hz
      · exact .inl (by omega)
      · exact h1 z hz
    · rename_i hk
      refine List.pairwise_cons.2 ⟨fun z hz => ?_, h⟩
      rcases List.mem_cons.1 hz with rfl | hz
      · rcases Int.lt_or_eq_of_le (Int.not_lt.1 hk) with h9 | h9
        · exact .inl h9
        · exact .inr ⟨h9, hy⟩
      · have h9 := h1 z hz
        unfold QP at h9 ⊢
        omega
theorem fold_pw {key : Int → Int} : ∀ (l acc : List Int), l.Pairwise (· < ·) → (∀ y ∈ acc, ∀ z ∈ l, y < z) → acc.Pairwise (QP key) → (l.foldl (fun acc x => sink key x acc) acc).Pairwise (QP key) ∧ ∀ z, z ∈ l ∨ z ∈ acc → z ∈ l.foldl (fun acc x => sink key x acc) acc
  | [], acc, _, _, h => ⟨h, fun z hz => hz.resolve_left (fun h9 => by cases h9)⟩
  | x :: l, acc, hl, ha, h => by
    obtain ⟨h1, h2⟩ := List.pairwise_cons.1 hl
    obtain ⟨g1, g2⟩ := fold_pw (key := key) l (sink key x acc) h2 (fun y hy z hz => by
      rcases sink_mem hy with rfl | hy
      · exact h1 z hz
      · exact ha y hy z (List.mem_cons_of_mem _ hz)) (sink_pw (fun y hy => ha y hy x (List.mem_cons_self ..)) h)
    refine ⟨g1, fun z hz => g2 z ?_⟩
    rcases hz with hz | hz
    · rcases List.mem_cons.1 hz with rfl | hz
      · exact .inr (sink_all (.inl rfl))
      · exact .inl hz
    · exact .inr (sink_all (.inr hz))
theorem sortD_pw (hl : l.Pairwise (· < ·)) : (sortD key l).Pairwise (fun u v => QP key v u) ∧ ∀ z, z ∈ l → z ∈ sortD key l := by
  obtain ⟨h1, h2⟩ := fold_pw (key := key) l [] hl (fun y hy => by cases hy) List.Pairwise.nil
  unfold sortD
  exact ⟨List.pairwise_reverse.2 h1, fun z hz => List.mem_reverse.2 (h2 z (.inl hz))⟩
theorem take_best (hl : l.Pairwise (· < ·)) (n : Nat) {u v : Int} (hu : u ∈ (sortD key l).take n) (hv : v ∈ l) (hn : v ∉ (sortD key l).take n) : QP key v u := by
  obtain ⟨h1, h2⟩ := sortD_pw (key := key) hl
  have hv2 := h2 v hv
  rw [← List.take_append_drop n (sortD key l)] at h1 hv2
  rcases List.mem_append.1 hv2 with h9 | h9
  · exact absurd h9 hn
  · exact (List.pairwise_append.1 h1).2.2 u hu v h9
theorem take_nodup (hl : l.Pairwise (· < ·)) (n : Nat) : ((sortD key l).take n).Nodup := by
  have h1 := (sortD_pw (key := key) hl).1.sublist (List.take_sublist n _)
  exact h1.imp (fun {a b} h9 e => by subst e; unfold QP at h9; omega)
def qN (B : List Int) : Nat → Int
  | 0 => 0
  | k + 1 => qN B k + (if (k : Int) ∈ B then 1 else 0)
theorem qN_bnd (B : List Int) : ∀ k : Nat, 0 ≤ qN B k ∧ qN B k ≤ (k : Int)
  | 0 => ⟨Int.le_refl 0, Int.le_refl 0⟩
  | k + 1 => by
    have := qN_bnd B k
    simp only [qN]
    split <;> omega
theorem qN_yes {B : List Int} {k : Nat} (h : (k : Int) ∈ B) : qN B (k + 1) = qN B k + 1 := by simp only [qN]; rw [if_pos h]
theorem qN_no {B : List Int} {k : Nat} (h : (k : Int) ∉ B) : qN B (k + 1) = qN B k := by simp only [qN]; rw [if_neg h, Int.add_zero]
theorem qN_len : ∀ (n : Nat) (B : List Int), B.Nodup → (∀ z ∈ B, 0 ≤ z ∧ z < (n : Int)) → qN B n = (B.length : Int)
  | 0, B, _, h => by
    cases B with
    | nil => rfl
    | cons z l => have := h z (List.mem_cons_self ..); omega
  | n + 1, B, hd, h => by
    simp only [qN]
    have hcg : ∀ (B C : List Int) (k : Nat),(∀ j : Nat, j < k → ((j : Int) ∈ B ↔ (j : Int) ∈ C)) → qN B k = qN C k := by
      intro B C k
      induction k with
      | zero => intro _; rfl
      | succ k ih =>
        intro hj
        simp only [qN]
        rw [ih (fun j hj2 => hj j (by omega))]
        by_cases hk : (k : Int) ∈ B
        · rw [if_pos hk, if_pos ((hj k (by omega)).1 hk)]
        · rw [if_neg hk, if_neg (fun h9 => hk ((hj k (by omega)).2 h9))]
    by_cases hm : (n : Int) ∈ B
    · rw [if_pos hm]
      have ih := qN_len n (B.erase (n : Int)) (hd.erase _) (fun z hz => by
        have h1 := (List.Nodup.mem_erase_iff hd).1 hz
        have h2 := h z h1.2
        have h3 := h1.1
        omega)
      rw [hcg B (B.erase (n : Int)) n (fun j hj => (List.mem_erase_of_ne (by omega)).symm), ih, List.length_erase_of_mem hm]
      have : 0 < B.length := List.length_pos_of_mem hm
      omega
    · rw [if_neg hm, qN_len n B hd (fun z hz => by
        have h2 := h z hz
        have : z ≠ (n : Int) := fun e => hm (e ▸ hz)
        omega)]; omega
theorem svc_flat {ts : List Trk} {iss now : Int} {s : VS} {R : List Rfm} (h : ∀ (k : Nat) x, R[k]? = some x → x.state = 1 ∧ decE ts x (tallyT s (k : Int)) iss now = 0) : ∀ k : Nat, k ≤ R.length → ∃ rs, svcK ts iss now R ⟨s, R, []⟩ k = ⟨s, rs, []⟩ ∧ rs.length = R.length ∧ ∀ (j : Nat) x, R[j]? = some x → rs[j]? = some (if j < k then decY ts x (tallyT s (j : Int)) iss now else x)
  | 0, _ => ⟨R, rfl, rfl, fun j x hx => by rw [if_neg (Nat.not_lt_zero _)]; exact hx⟩
  | k + 1, hk => by
    obtain ⟨rs, h1, h2, h3⟩ := svc_flat h k (by omega)
    obtain ⟨x, hx⟩ : ∃ x, R[k]? = some x := ⟨_, List.getElem?_eq_getElem (by omega)⟩
    obtain ⟨hs, hd⟩ := h k x hx
    refine ⟨rs.set k (decY ts x (tallyT s (k : Int)) iss now), ?_, by rw [List.length_set]; exact h2, fun j y hy => ?_⟩
    · simp only [svcK, hx, h1]
      rw [step_on (q := ⟨s, rs, []⟩) hs hd, Int.toNat_natCast]
    · by_cases e : j = k
      · subst e; rw [hx] at hy; cases hy; rw [List.getElem?_set_self (by omega), if_pos (by omega)]
      · rw [List.getElem?_set_ne (fun e9 => e e9.symm), h3 j y hy]
        by_cases hl : j < k
        · rw [if_pos hl, if_pos (by omega)]
        · rw [if_neg hl, if_neg (by omega)]
theorem setN_at (now : Int) : ∀ (B : List Int) (rs : List Rfm),(∀ z ∈ B, 0 ≤ z ∧ z < (rs.length : Int)) → (B.foldl (setN now) rs).length = rs.length ∧ ∀ (j : Nat) x, rs[j]? = some x → (B.foldl (setN now) rs)[j]? = some (if (j : Int) ∈ B then { x with since := now } else x)
  | [], rs, _ => ⟨rfl, fun j x hx => by rw [if_neg (by intro h; cases h)]; exact hx⟩
  | b :: B, rs, h => by
    have hb := h b (List.mem_cons_self ..)
    have hl : (setN now rs b).length = rs.length := by unfold setN; rw [List.length_set]
    obtain ⟨g1, g2⟩ := setN_at now B (setN now rs b) (fun z hz => by rw [hl]; exact h z (List.mem_cons_of_mem _ hz))
    refine ⟨g1.trans hl, fun j x hx => ?_⟩
    show (B.foldl (setN now) (setN now rs b))[j]? = _
    by_cases e : (j : Int) = b
    · have hga : getA rs b = x := by
        unfold getA getR
        rw [if_pos hb, ← e, Int.toNat_natCast, hx]; rfl
      have h1 : (setN now rs b)[j]? = some { x with since := now } := by
        unfold setN
        rw [hga, ← e, Int.toNat_natCast, List.getElem?_set_self (List.getElem?_eq_some_iff.1 hx).1]
      rw [g2 j _ h1, if_pos (List.mem_cons.2 (.inl e))]
      split <;> rfl
    · have h1 : (setN now rs b)[j]? = some x := by
        unfold setN
        rw [List.getElem?_set_ne (by omega)]; exact hx
      rw [g2 j _ h1]
      by_cases hm : (j : Int) ∈ B
      · rw [if_pos hm, if_pos (List.mem_cons_of_mem _ hm)]
      · rw [if_neg hm, if_neg (fun h9 => by rcases List.mem_cons.1 h9 with h9 | h9; exact e h9; exact hm h9)]
theorem waitL_all {ts : List Trk} {of now : Int} : ∀ (i : Nat) (l : List Rfm),(∀ x ∈ l, waitB ts of now x = true) → (waitL ts of now i l).Pairwise (· < ·) ∧ (waitL ts of now i l).length = l.length ∧ ∀ z, z ∈ waitL ts of now i l ↔ (i : Int) ≤ z ∧ z < (i : Int) + (l.length : Int)
  | i, [], _ => ⟨List.Pairwise.nil, rfl, fun z => ⟨fun h => (by cases h), fun h => by have h2 := h.2; rw [List.length_nil] at h2; omega⟩⟩
  | i, x :: l, h => by
    obtain ⟨h1, h2, h3⟩ := waitL_all (i + 1) l (fun y hy => h y (List.mem_cons_of_mem _ hy))
    simp only [waitL]
    rw [if_pos (h x (List.mem_cons_self ..))]
    refine ⟨List.pairwise_cons.2 ⟨fun z hz => by have := (h3 z).1 hz; omega, h1⟩, by rw [List.length_cons, List.length_cons, h2], fun z => ?_⟩
    rw [List.mem_cons, h3, List.length_cons]
    omega
theorem waitL_no {ts : List Trk} {of now : Int} : ∀ (i : Nat) (l : List Rfm),(∀ x ∈ l, waitB ts of now x = false) → waitL ts of now i l = []
  | _, [], _ => rfl
  | i, x :: l, h => by
    simp only [waitL]
    rw [if_neg (by rw [h x (List.mem_cons_self ..)]; decide)]
    exact waitL_no (i + 1) l (fun y hy => h y (List.mem_cons_of_mem _ hy))
theorem decN_no {of : Int} : ∀ l : List Rfm, (∀ x ∈ l, decB of x = false) → decN of l = 0
  | [], _ => rfl
  | x :: l, h => by
    simp only [decN]
    rw [h x (List.mem_cons_self ..), decN_no l (fun y hy => h y (List.mem_cons_of_mem _ hy))]; rfl
theorem qu_w1 (m : Int) : waitB [quT m] 0 1 quR = false := by kernel_rfl
theorem qu_w2 (m : Int) : waitB [quT m] 0 2 quR = true := by kernel_rfl
theorem qu_d : decB 0 quR = false := by kernel_rfl
theorem qu_most (m : Int) : (trkA [quT m] 0).most = m := by kernel_rfl
theorem qu_e {y : Tly} {iss now : Int} (h : now = 1 ∨ now = 2) : decE [quT m] quR y iss now = 0 ∧ decY [quT m] quR y iss now = quR := by rcases h with rfl | rfl <;> exact ⟨rfl, rfl⟩
theorem qu_e2 {y : Tly} {iss : Int} : decE [quT m] { quR with since := 2 } y iss 2 = 0 := by
  have ht : tillI [quT m] { quR with since := 2 } y iss 2 = -1 ∨ tillI [quT m] { quR with since := 2 } y iss 2 = 5 := by
    unfold tillI
    split
    · exact .inl rfl
    · exact .inr (by kernel_rfl)
  unfold decE
  rw [if_neg (by decide)]
  have hz : ¬ w64 (2 - 2) ≥ (trkA [quT m] quR.track).decision := by rw [show (trkA [quT m] quR.track).decision = 10 by kernel_rfl]; decide
  rcases ht with ht | ht
  · rw [ht, if_neg (by decide), if_neg (fun h9 => hz h9.2)]
  · rw [ht, if_neg (by decide), if_neg (fun h9 => hz h9.2)]
theorem QI.at_ (h : QI m i q) {x : Rfm} (hx : x ∈ q.rs) : x = quR := by rw [h.rs] at hx; exact List.eq_of_mem_replicate hx
theorem QI.early (h : QI m i q) : rwSvc [quT m] q 1 = q ∧ rwEvs [quT m] q 1 = [] := by
  have hb : begK [quT m] q.s 1 q.rs 1 = q.rs := by
    show begR [quT m] q.s 1 q.rs 0 = _
    unfold begR begL
    rw [waitL_no 0 q.rs (fun x hx => by rw [h.at_ hx]; exact qu_w1 m), show sortD (fun r => (tallyT q.s r).a) [] = [] from rfl, List.take_nil]; rfl
  obtain ⟨rs, h1, h2, h3⟩ := svc_flat (ts := [quT m]) (iss := tot q.xs) (now := 1) (s := q.s) (R := q.rs) (fun k x hx => by
    rw [h.at_ (List.mem_of_getElem? hx)]; exact ⟨rfl, (qu_e (.inl rfl)).1⟩) q.rs.length (Nat.le_refl _)
  have e : rs = q.rs := List.ext_getElem? fun j => by
    rcases Nat.lt_or_ge j q.rs.length with hj | hj
    · have hx := List.getElem?_eq_getElem hj
      have hq := h.at_ (List.getElem_mem hj)
      rw [h3 j _ hx, hx, hq, if_pos hj, (qu_e (.inl rfl)).2]
    · rw [List.getElem?_eq_none hj, List.getElem?_eq_none (by omega)]
  rw [e] at h1
  have hs : svcQ [quT m] q.xs q.s q.rs 1 = ⟨q.s, q.rs, []⟩ := by
    unfold svcQ
    rw [show begK [quT m] q.s 1 q.rs [quT m].length = q.rs from hb]; exact h1
  exact ⟨by unfold rwSvc; rw [hs], by unfold rwEvs; rw [hs]⟩
def quB (m : Int) (q : RW) : List Int := begL [quT m] q.s q.rs 0 2
theorem QI.late (h : QI m i q) (hm : 1 ≤ m ∧ m ≤ 4) : (rwSvc [quT m] q 2).s = q.s ∧ (rwSvc [quT m] q 2).rs.length = i ∧ (∀ (j : Nat) x, (rwSvc [quT m] q 2).rs[j]? = some x → (x.since < 0 ↔ (j : Int) ∉ quB m q)) ∧ qN (quB m q) i = imin m (i : Int) ∧ (∀ j k : Nat, j < i → k < i → (j : Int) ∈ quB m q → (k : Int) ∉ quB m q → QP (fun r => (tallyT q.s r).a) (k : Int) (j : Int)) := by
  obtain ⟨w1, w2, w3⟩ := waitL_all (ts := [quT m]) (of := 0) (now := 2) 0 q.rs (fun x hx => by rw [h.at_ hx]; exact qu_w2 m)
  have hBe : quB m q = (sortD (fun r => (tallyT q.s r).a) (waitL [quT m] 0 2 0 q.rs)).take (imin m (i : Int)).toNat := by
    unfold quB begL
    rw [w2, h.len, decN_no q.rs (fun x hx => by rw [h.at_ hx]; exact qu_d), qu_most]
    congr 2
    unfold imin imax; split <;> split <;> split <;> omega
  have hBm : ∀ z ∈ quB m q, 0 ≤ z ∧ z < (q.rs.length : Int) := fun z hz => by
    rw [hBe] at hz
    have := (w3 z).1 (sortD_mem (List.mem_of_mem_take hz)); omega
  have hb : begK [quT m] q.s 2 q.rs 1 = (quB m q).foldl (setN 2) q.rs := rfl
  obtain ⟨s1, s2⟩ := setN_at 2 (quB m q) q.rs hBm
  have hR : ∀ (j : Nat) x, ((quB m q).foldl (setN 2) q.rs)[j]? = some x → x = if (j : Int) ∈ quB m q then { quR with since := 2 } else quR := fun j x hx => by
    have hj : j < q.rs.length := by have := (List.getElem?_eq_some_iff.1 hx).1; omega
    have h9 := s2 j _ (List.getElem?_eq_getElem hj)
    rw [hx, h.at_ (List.getElem_mem hj)] at h9
    exact Option.some.inj h9
  obtain ⟨rs, h1, h2, h3⟩ := svc_flat (ts := [quT m]) (iss := tot q.xs) (now := 2) (s := q.s) (R := (quB m q).foldl (setN 2) q.rs) (fun k x hx => by
    rw [hR k x hx]
    split
    · exact ⟨rfl, qu_e2⟩
    · exact ⟨rfl, (qu_e (.inr rfl)).1⟩) q.rs.length (by omega)
  have hs : svcQ [quT m] q.xs q.s q.rs 2 = ⟨q.s, rs, []⟩ := by
    unfold svcQ
    rw [show begK [quT m] q.s 2 q.rs [quT m].length = (quB m q).foldl (setN 2) q.rs from hb]; exact h1
  have hrs : (rwSvc [quT m] q 2).rs = rs := by unfold rwSvc; rw [hs]
  have hl := h.len
  refine ⟨by unfold rwSvc; rw [hs], by rw [hrs]; omega, fun j x hx => ?_, ?_, fun j k hj hk hjB hkB => ?_⟩
  · rw [hrs] at hx
    have hj : j < ((quB m q).foldl (setN 2) q.rs).length := by have := (List.getElem?_eq_some_iff.1 hx).1; omega
    have h9 := h3 j _ (List.getElem?_eq_getElem hj)
    rw [hx, if_pos (by omega), hR j _ (List.getElem?_eq_getElem hj)] at h9
    rw [Option.some.inj h9]
    by_cases hB : (j : Int) ∈ quB m q
    · rw [if_pos hB]
      refine ⟨fun h8 => ?_, fun h8 => absurd hB h8⟩
      have h7 : (decY [quT m] { quR with since := 2 } (tallyT q.s (j : Int)) (tot q.xs) 2).since = 2 := by unfold decY; rw [if_neg (by decide)]
      omega
    · rw [if_neg hB, (qu_e (.inr rfl)).2]
      exact ⟨fun _ => hB, fun _ => by decide⟩
  · have hnd : (quB m q).Nodup := by rw [hBe]; exact take_nodup w1 _
    rw [qN_len i (quB m q) hnd (fun z hz => by rw [← hl]; exact hBm z hz), hBe, List.length_take, sortD_len, w2, hl]
    unfold imin; split <;> omega
  · rw [hBe] at hjB hkB
    exact take_best w1 _ hjB ((w3 _).2 (by omega)) hkB
end Go.Al
namespace Go.Al
open Go Go.RowKit Go.Proofs
set_option maxHeartbeats 2000000 in
theorem walk_ReferQueue (A : Option Addr) (cap : Nat) (az : List Int) (most : Int) (w : World) (hA0 : ArgT w 1 intc A cap az) (hcap : az.length ≤ 9223372036854775807) : Calls Tryz.prog 9 #[.slice A az.length cap, nt most] w (rk_ w (.bool true)) := by
 have hA := hA0
 have hK0 := Keep.refl none_ w
 refine eV ?_
 refine Vr <| On 1 [0, 1] <| Oe <| V_seq <| Vr <| On 4 [0, 1, 22] ?_
 by_cases hg1 : (az.length : Int) > 8
 ·
  exact Dt 22 hg1 <| Oen [0, 1, 29] <| Vo <| Vn [4] <| Rt <| Xr (.bool true) ⟨rfl, hK0⟩
 refine Df 22 hg1 <| On 8 [0, 1, 26] ?_
 by_cases hg2 : most < 1
 ·
  exact Dt 26 hg2 <| Oen [0, 1, 29] <| Vo <| Vn [4] <| Rt <| Xr (.bool true) ⟨rfl, hK0⟩
 refine Df 26 hg2 <| Oen [0, 1, 29] <| Vi (most > 4) (fun hc3 => ?_) (fun hc3 => ?_)
 ·
  exact Vn [4] <| Rt <| Xr (.bool true) ⟨rfl, hK0⟩
 refine Vsk <| Vr <| Kk (plain_spec _) fun w4 hk5 _ => ?_
 replace hK0 := hK0.tn hk5
 refine Alc_ 27 (.agg (Trk.cells Trk.zero).toArray) (Trk.cells Trk.zero) ?_
 intro b7 w7 e7 hb7 k7 z7
 have hsz8 := Keep.size k7
 replace hK0 := hK0.tn k7
 have hb7lt := hb7.lt
 refine Sg 0 (Trk.cells plainT) hb7 (Trk.len _) (Trk.one _) ?_
 intro w9 hb7_12 hk10 hz11
 replace hb7_12 : Blk w9 b7 (Trk.cells plainT) 27 := (Blk.eqL (Trk.over _ _) hb7_12)
 have hsz13 := Keep.size hk10
 replace hK0 := Keep.fr hK0 hk10
 refine Oer <| On 2 [0, 1, 5, 31, 32] <| St_ 0 (nt most) hb7_12 ?_
 intro w14 hb7_17 hk15 hz16
 replace hb7_17 : Blk w14 b7 (Trk.cells { plainT with most := most }) 27 := (Blk.eqL (by kernel_rfl) hb7_17)
 have hsz18 := Keep.size hk15
 replace hK0 := Keep.fr hK0 hk15
 refine Oer <| La 0 (Trk.cells { plainT with most := most }) 18 hb7_17 (take_all (Trk.len _)) (Trk.len _) <| OI_slit (E := 27) (zv := .agg #[nt 0, nt 0, nt 0, nt 0, nt 0, nt 0, nt 0, nt 0, nt 0, nt 0, nt 0, nt 0, nt 0, nt 0, nt 0, nt 0, nt 0, nt 0]) (sz := 18) (by_ := 144) 29 1 #[(0, (Operand.tmp 33))] [.agg (Trk.cells { plainT with most := most }).toArray] (Trk.cells { plainT with most := most }) (some 34) (by kernel_rfl) (by kernel_rfl) (by kernel_rfl) (by omega) rfl (by omega) (by intro v hv; obtain rfl := List.mem_singleton.1 hv; show (Trk.cells { plainT with most := most }).toArray.size = 18; simp [Trk.len]) (by kernel_rfl) (by show (Trk.cells { plainT with most := most }).toArray.toList ++ [] = _; simp) ?_
 intro b19 w19 e19 hb19 k19 z19
 have hsz20 := Keep.size k19
 replace hK0 := hK0.tn k19
 have hb19lt := hb19.lt
 refine Kg (begin_weak (some ⟨b19, 0, none⟩) 1 [({ plainT with most := most })] _ (slt_blk (xs := [({ plainT with most := most })]) (f := Trk.cells) hb19 Trk.len rfl) (qu_ok ⟨by omega, by omega⟩)) ?_
 rintro _ w23 ⟨b25, r26, gg27, v28, l29, H30, F31, G32, xv33, yv34, zv35, rfl, hb36, hR37, hV38, hL39, hk24, hge40, oH41, oF42, oG43, dHF44, dHG45, dFG46⟩
 refine ⟨_, rfl, ?_⟩
 have hsz47 := Keep.size hk24
 replace hb7_17 := hb7_17.k0 (k19.tr hk24)
 replace hK0 := hK0.tn hk24
 have hb25lt := hb36.lt
 replace hR37 : Rfr H30 w23 r26 gg27 [quT most] [] := hR37
 have own48 : ∀ q, H30 q → w19.heap.size ≤ q ∧ q ≠ b7 ∧ q ≠ b19 ∧ q ≠ b25 := fun q hq => by have h1 := oH41 q hq; omega
 have lt49 := Rfr.lt hR37
 have own50 : ∀ q, F31 q → w19.heap.size ≤ q ∧ q ≠ b7 ∧ q ≠ b19 ∧ q ≠ b25 := fun q hq => by have h1 := oF42 q hq; omega
 have lt51 := VotT.lt hV38
 have own52 : ∀ q, G32 q → w19.heap.size ≤ q ∧ q ≠ b7 ∧ q ≠ b19 ∧ q ≠ b25 := fun q hq => by have h1 := oG43 q hq; omega
 have lt53 := Led.lt hL39
 replace hR37 : Rfr H30 w23 r26 gg27 [quT most] rwQ0.rs := hR37
 replace hV38 : VotT F31 w23 v28 rwQ0.s := hV38
 replace hL39 : Led G32 w23 l29 rwQ0.xs rwQ0.cs := hL39
 refine On 4 [0, 1, 5, 6] <| Oe <| V_seq <| Vn [0, 1, 5, 6, 37] <| Vf <| Vsk <| V_seq <| Vn [0, 1, 5, 6, 7] <| V_block <| Vp [(0, .slice A az.length cap),(1, nt most),(5, pt b7),(6, pt b25),(7, nt 0)] <| V_loop (fun k wI e => ∃ i : Nat, ∃ q : RW, ∃ Hk : Nat → Prop, ∃ Fk : Nat → Prop, ∃ Gz : Nat → Prop, (k + i = az.length) ∧ (QI most i q) ∧ (Blk wI b25 [pt l29, pt v28, pt r26, .pointer xv33, .pointer yv34, .pointer zv35, nt 0] 39) ∧ (Rfr Hk wI r26 gg27 [quT most] q.rs) ∧ (VotT Fk wI v28 q.s) ∧ (Led Gz wI l29 q.xs q.cs) ∧ (∀ q, Hk q → w.heap.size ≤ q ∧ q ≠ b25 ∧ q ≠ b7) ∧ (∀ q, Fk q → w.heap.size ≤ q ∧ q ≠ b25 ∧ q ≠ b7) ∧ (∀ q, Gz q → w.heap.size ≤ q ∧ q ≠ b25 ∧ q ≠ b7) ∧ (∀ q, Hk q → ¬ Fk q) ∧ (∀ q, Hk q → ¬ Gz q) ∧ (∀ q, Fk q → ¬ Gz q) ∧ (Keep none_ w wI) ∧ (Blk wI b7 (Trk.cells { plainT with most := most }) 27) ∧ (w.heap.size ≤ b7 ∧ b7 ≠ b25) ∧ e = [(0, .slice A az.length cap),(1, nt most),(5, pt b7),(6, pt b25),(7, nt (i : Int))]) az.length ⟨0, rwQ0, H30, F31, G32, by omega, QI.zero most, hb36, hR37, hV38, hL39, (fun q hq => by have h1 := own48 q hq; have h2 := lt49 q hq; omega),(fun q hq => by have h1 := own50 q hq; have h2 := lt51 q hq; omega),(fun q hq => by have h1 := own52 q hq; have h2 := lt53 q hq; omega), dHF44, dHG45, dFG46, hK0, hb7_17, by omega, rfl⟩ ?_
 rintro k55 w54 _ ⟨i, q, Hk, Fk, Gz, hki, hQ, hbk, hRk, hVk, hLk, hHko, hFko, hGko, dkHF, dkHG, dkFG, hK0, hcb7, hgeb7, rfl⟩
 have hb7lt := hcb7.lt
 have hb25lt := hbk.lt
 have ltHk := Rfr.lt hRk
 have ltFk := VotT.lt hVk
 have ltGk := Led.lt hLk
 have hp57 := ArgT.keep0 hA0 hK0
 refine V_seq <| Vn [0, 1, 5, 6, 7, 41] <| Vi ((i : Int) < (az.length : Int)) (fun hc58 => ?_) (fun hc58 => ?_)
 ·
  refine Vsk <| V_seq <| V_block <| V_seq <| V_draws (acts [13]) none_ [[0, 1, 2, 3, 4, 5, 6, 7, 8, 9, 10, 11, 12, 13, 14, 15, 16, 17, 18]] (by kernel_rfl) (by repeat first | exact (by first | exact sure_body (by rintro _ _ ⟨_, _, h, _⟩; exact ⟨_, h⟩) | exact sure_body (by rintro _ _ ⟨_, _, _, _, _, _, _, _, _, _, _, h, _⟩; exact ⟨_, h⟩) | exact sure_body (by rintro _ _ ⟨h, _⟩; exact ⟨_, h⟩)) | refine sure_then ?_ | refine sure_block ?_ | refine sure_join ?_) (by kernel_rfl) ?_
  intro w60 hk59 he61 L hL62
  have hsz63 := Keep.size hk59
  replace hcb7 := hcb7.k0 hk59
  replace hbk := hbk.k0 hk59
  replace hp57 := ArgT.keep0 hp57 hk59
  replace hRk := hRk.keep hk59 nk
  replace hVk := hVk.keep hk59 nk
  replace hLk := hLk.keep hk59 nk
  replace hK0 := hK0.tn hk59
  have qhbk := hbk
  have K64 : Keep none_ w60 w60 := Keep.refl _ _
  obtain rfl := List.mem_singleton.1 hL62
  refine Gn [3, 4, 5, 6, 7, 8, 9, 10, 11, 12, 13, 14, 15, 16, 17, 18] [0, 1, 5, 6, 7, 47] <| Mr 2 (pt r26) qhbk <| Gn [7, 8, 9, 10, 11, 12, 13, 14, 15, 16, 17, 18] [0, 1, 5, 6, 7, 48, 51] <| Mr 0 (pt l29) qhbk <| Gn [11, 12, 13, 14, 15, 16, 17, 18] [0, 1, 5, 6, 7, 48, 52, 55] <| Mr 1 (pt v28) qhbk <| Gn [13, 14, 15, 16, 17, 18] [0, 1, 5, 6, 7, 48, 52, 56, 57] <| Gk0 (kl 17 #[(.tmp 48),(.tmp 52),(.tmp 56),(.const (nt 1)),(.const (nt 0)),(.tmp 57),(.const (nt 0)),(.const (nt 0))] #[34, 32, 33, 3, 3, 42, 3, 3]) 17 #[pt r26, pt l29, pt v28, nt 1, nt 0, .agg (hshc z0).toArray, nt 0, nt 0] (some 58) (submit_spec Hk r26 gg27 [quT most] q.rs Fk v28 q.s Gz l29 q.xs q.cs 1 0 z0 0 0 _ hRk hVk hLk dkHF dkHG dkFG) ?_
  rintro _ w67 ⟨rfl, ⟨F69, F72, F75, ho70, ho73, ho76, hfr71, hfr74, hfr77, hdis78, hdis79, hdis80⟩, hk68⟩
  refine ⟨_, rfl, ?_⟩
  have hsz81 := Keep.size hk68
  replace hcb7 := hcb7.keep hk68 (fun hs => by rcases hs with hs | hs | hs; (have u9 : _ = gg27 := hs; have u0 := hHko _ (Rfr.atg hRk); have u1 := ltHk _ (Rfr.atg hRk); omega); (have u0 := hFko _ hs; have u1 := ltFk _ hs; omega); (have u0 := hGko _ hs; have u1 := ltGk _ hs; omega))
  replace hbk := hbk.keep hk68 (fun hs => by rcases hs with hs | hs | hs; (have u9 : _ = gg27 := hs; have u0 := hHko _ (Rfr.atg hRk); have u1 := ltHk _ (Rfr.atg hRk); omega); (have u0 := hFko _ hs; have u1 := ltFk _ hs; omega); (have u0 := hGko _ hs; have u1 := ltGk _ hs; omega))
  replace hp57 := ArgT.keep hp57 hk68 hA0 (fun k hk hs => by rcases hs with hs | hs | hs; (have u9 : _ = gg27 := hs; have u0 := hHko _ (Rfr.atg hRk); have u1 := ltHk _ (Rfr.atg hRk); omega); (have u0 := hFko k hs; have u1 := ltFk k hs; omega); (have u0 := hGko k hs; have u1 := ltGk k hs; omega))
  replace hK0 := Keep.fresh hK0 hk68 (by intro i hi hs; first | exact hs | (rcases hs with hs | hs | hs; (have u9 : _ = gg27 := hs; have u0 := hHko _ (Rfr.atg hRk); have u1 := ltHk _ (Rfr.atg hRk); omega); (have u0 := hFko i hs; have u1 := ltFk i hs; omega); (have u0 := hGko i hs; have u1 := ltGk i hs; omega)))
  have own83 : ∀ q, F69 q → w.heap.size ≤ q ∧ q ≠ b7 ∧ q ≠ b25 := fun q hq => by rcases hfr71 q hq with h | h; (have h1 := hHko q h; have h2 := ltHk q h; omega); omega
  have lt82 := Rfr.lt ho70
  have own85 : ∀ q, F72 q → w.heap.size ≤ q ∧ q ≠ b7 ∧ q ≠ b25 := fun q hq => by rcases hfr74 q hq with h | h; (have h1 := hFko q h; have h2 := ltFk q h; omega); omega
  have lt84 := VotT.lt ho73
  have own87 : ∀ q, F75 q → w.heap.size ≤ q ∧ q ≠ b7 ∧ q ≠ b25 := fun q hq => by rcases hfr77 q hq with h | h; (have h1 := hGko q h; have h2 := ltGk q h; omega); omega
  have lt86 := Led.lt ho76
  replace ho70 : Rfr F69 w67 r26 gg27 [quT most] (rwSub [quT most] q 1 0 0 z0 0).rs := ho70
  replace ho73 : VotT F72 w67 v28 ((rwSub [quT most] q 1 0 0 z0 0).s) := ho73
  replace ho76 : Led F75 w67 l29 (rwSub [quT most] q 1 0 0 z0 0).xs (rwSub [quT most] q 1 0 0 z0 0).cs := ho76
  refine Gp_ [(0, .slice A az.length cap),(1, nt most),(5, pt b7),(6, pt b25),(7, nt (i : Int)),(58, .tuple #[nt (if RW.subE [quT most] q 1 0 0 = 0 then (q.rs.length : Int) else 0), nt (RW.subE [quT most] q 1 0 0)])] <| Gq_ (u := .tuple #[nt (if RW.subE [quT most] q 1 0 0 = 0 then (q.rs.length : Int) else 0), nt (RW.subE [quT most] q 1 0 0)]) (v := .tuple #[nt (i : Int), nt 0]) 58 (by rw [hQ.num (by omega),(hQ.sub (by omega)).1]) <| Gn [] [0, 1, 5, 6, 7, 8, 9] <| GI_end <| X_then <| V_seq <| V_draws (acts [9]) none_ [[0, 1, 2, 3, 4, 5, 6, 7, 8, 9, 10]] (by kernel_rfl) (by repeat first | exact (by first | exact sure_body (by rintro _ _ ⟨_, _, h, _⟩; exact ⟨_, h⟩) | exact sure_body (by rintro _ _ ⟨_, _, _, _, _, _, _, _, _, _, _, h, _⟩; exact ⟨_, h⟩) | exact sure_body (by rintro _ _ ⟨h, _⟩; exact ⟨_, h⟩)) | refine sure_then ?_ | refine sure_block ?_ | refine sure_join ?_) (by kernel_rfl) ?_
  intro w89 hk88 he90 L hL91
  have hsz92 := Keep.size hk88
  replace hcb7 := hcb7.k0 hk88
  replace hbk := hbk.k0 hk88
  replace hp57 := ArgT.keep0 hp57 hk88
  replace hK0 := hK0.tn hk88
  replace ho70 := ho70.keep hk88 nk
  replace ho73 := ho73.keep hk88 nk
  replace ho76 := ho76.keep hk88 nk
  have qhbk := hbk
  have K93 : Keep none_ w89 w89 := Keep.refl _ _
  obtain rfl := List.mem_singleton.1 hL91
  refine Gn [3, 4, 5, 6, 7, 8, 9, 10] [0, 1, 5, 6, 7, 8, 9, 63] <| Mr 2 (pt r26) qhbk <| Gn [7, 8, 9, 10] [0, 1, 5, 6, 7, 8, 9, 64, 67] <| Mr 0 (pt l29) qhbk <| Gn [9, 10] [0, 1, 5, 6, 7, 8, 9, 64, 68, 69] <| Gk0 (kl 21 #[(.tmp 64),(.tmp 68),(.const (nt 2)),(.tmp 69)] #[34, 32, 3, 3]) 21 #[pt r26, pt l29, nt 2, nt (i : Int)] (some 70) (deposit_spec F69 r26 gg27 [quT most] (rwSub [quT most] q 1 0 0 z0 0).rs F75 l29 (rwSub [quT most] q 1 0 0 z0 0).xs (rwSub [quT most] q 1 0 0 z0 0).cs 2 (i : Int) _ ho70 ho76 hdis79) ?_
  rintro _ w96 ⟨rfl, ⟨F98, F101, ho99, ho102, hfr100, hfr103, hdis104⟩, hk97⟩
  refine ⟨_, rfl, ?_⟩
  have hsz105 := Keep.size hk97
  replace hcb7 := hcb7.keep hk97 (fun hs => by rcases hs with hs | hs; (have u9 : _ = gg27 := hs; have u0 := own83 _ (Rfr.atg ho70); have u1 := lt82 _ (Rfr.atg ho70); omega); (have u0 := own87 _ hs; have u1 := lt86 _ hs; omega))
  replace hbk := hbk.keep hk97 (fun hs => by rcases hs with hs | hs; (have u9 : _ = gg27 := hs; have u0 := own83 _ (Rfr.atg ho70); have u1 := lt82 _ (Rfr.atg ho70); omega); (have u0 := own87 _ hs; have u1 := lt86 _ hs; omega))
  replace hp57 := ArgT.keep hp57 hk97 hA0 (fun k hk hs => by rcases hs with hs | hs; (have u9 : _ = gg27 := hs; have u0 := own83 _ (Rfr.atg ho70); have u1 := lt82 _ (Rfr.atg ho70); omega); (have u0 := own87 k hs; have u1 := lt86 k hs; omega))
  replace hK0 := Keep.fresh hK0 hk97 (by intro i hi hs; first | exact hs | (rcases hs with hs | hs; (have u9 : _ = gg27 := hs; have u0 := own83 _ (Rfr.atg ho70); have u1 := lt82 _ (Rfr.atg ho70); omega); (have u0 := own87 i hs; have u1 := lt86 i hs; omega)))
  replace ho73 := ho73.keep hk97 (fun q hq hs => by rcases hs with hs | hs; exact hdis78 q (by rw [show q = gg27 from hs]; exact (Rfr.atg ho70)) hq; exact hdis80 q hq hs)
  have own107 : ∀ q, F98 q → w.heap.size ≤ q ∧ q ≠ b7 ∧ q ≠ b25 := fun q hq => by rcases hfr100 q hq with h | h; (have h1 := own83 q h; have h2 := lt82 q h; omega); omega
  have lt106 := Rfr.lt ho99
  have dis108 : ∀ q, F98 q → ¬ F72 q := fun q h1 h2 => by rcases hfr100 q h1 with h | h; exact hdis78 q h h2; (have h4 := lt84 q h2; omega)
  have own110 : ∀ q, F101 q → w.heap.size ≤ q ∧ q ≠ b7 ∧ q ≠ b25 := fun q hq => by rcases hfr103 q hq with h | h; (have h1 := own87 q h; have h2 := lt86 q h; omega); omega
  have lt109 := Led.lt ho102
  have dis111 : ∀ q, F101 q → ¬ F72 q := fun q h1 h2 => by rcases hfr103 q h1 with h | h; exact hdis80 q h2 h; (have h4 := lt84 q h2; omega)
  replace ho99 : Rfr F98 w96 r26 gg27 [quT most] (rwDep [quT most] (rwSub [quT most] q 1 0 0 z0 0) 2 (i : Int)).rs := ho99
  replace ho73 : VotT F72 w96 v28 ((rwDep [quT most] (rwSub [quT most] q 1 0 0 z0 0) 2 (i : Int)).s) := ho73
  replace ho102 : Led F101 w96 l29 (rwDep [quT most] (rwSub [quT most] q 1 0 0 z0 0) 2 (i : Int)).xs (rwDep [quT most] (rwSub [quT most] q 1 0 0 z0 0) 2 (i : Int)).cs := ho102
  refine Gp_ [(0, .slice A az.length cap),(1, nt most),(5, pt b7),(6, pt b25),(7, nt (i : Int)),(8, nt (i : Int)),(9, nt 0),(70, nt (RW.depE [quT most] (rwSub [quT most] q 1 0 0 z0 0) 2 (i : Int)))] <| Gq_ (u := nt (RW.depE [quT most] (rwSub [quT most] q 1 0 0 z0 0) 2 (i : Int))) (v := nt 0) 70 (by rw [(hQ.dep (by omega)).1]) <| Gn [] [0, 1, 5, 6, 7, 8, 9, 10] <| GI_end <| X_then <| V_seq <| V_draws (acts [18]) none_ [[0, 1, 2, 3, 4, 5, 6, 7, 8, 9, 10, 11, 12, 13, 14, 15, 16, 17, 18, 19]] (by kernel_rfl) (by repeat first | exact (by first | exact sure_body (by rintro _ _ ⟨_, _, h, _⟩; exact ⟨_, h⟩) | exact sure_body (by rintro _ _ ⟨_, _, _, _, _, _, _, _, _, _, _, h, _⟩; exact ⟨_, h⟩) | exact sure_body (by rintro _ _ ⟨h, _⟩; exact ⟨_, h⟩)) | refine sure_then ?_ | refine sure_block ?_ | refine sure_join ?_) (by kernel_rfl) ?_
  intro w113 hk112 he114 L hL115
  have hsz116 := Keep.size hk112
  replace hcb7 := hcb7.k0 hk112
  replace hbk := hbk.k0 hk112
  replace hp57 := ArgT.keep0 hp57 hk112
  replace hK0 := hK0.tn hk112
  replace ho73 := ho73.keep hk112 nk
  replace ho99 := ho99.keep hk112 nk
  replace ho102 := ho102.keep hk112 nk
  have qhbk := hbk
  have K117 : Keep none_ w113 w113 := Keep.refl _ _
  obtain rfl := List.mem_singleton.1 hL115
  refine Gn [3, 4, 5, 6, 7, 8, 9, 10, 11, 12, 13, 14, 15, 16, 17, 18, 19] [0, 1, 5, 6, 7, 8, 9, 10, 73] <| Mr 1 (pt v28) qhbk <| Gn [7, 8, 9, 10, 11, 12, 13, 14, 15, 16, 17, 18, 19] [0, 1, 5, 6, 7, 8, 9, 10, 74, 77] <| Mr 0 (pt l29) qhbk <| Gs [14, 15, 16, 17, 18, 19] [(0, .slice A az.length cap),(1, nt most),(5, pt b7),(6, pt b25),(7, nt (i : Int)),(8, nt (i : Int)),(9, nt 0),(10, nt 0),(74, pt v28),(78, pt l29),(81, nt (i64.wrap (3 + (bAnd (i : Int) 3)))),(82, nt (i : Int)),(83, .slice A az.length cap),(84, nt (i : Int))] ?_
  obtain ⟨b118, o118, L118, rfl, hat118⟩ := ArgT.open_ hp57 (by first | omega | (simp only [List.length_map]; omega) | (simp; done) | (simp; omega))
  have hb118lt0 := ArgT.lt hA0 (by first | omega | (simp only [List.length_map]; omega) | (simp; done) | (simp; omega))
  have hb118lt := hat118.blk.lt
  refine Gi (b := b118) (o := o118) (len := az.length) (cap := cap) (j := i) 3 1 8 .i64 ?_
  obtain ⟨x119, hx120⟩ := exAt (xs := az) (i := i)
  refine GI_cellR 3 (.tmp 85) (o118 + i * 1) (nt x119) (some 86) (by kernel_rfl) (by kernel_rfl) (by kernel_rfl) hat118.blk id (m := 1) (by kernel_rfl) (AtR.cell0 hat118 (es_at hx120) rfl) <| Gn [18, 19] [0, 1, 5, 6, 7, 8, 9, 10, 74, 78, 81, 82, 88] ?_
  obtain ⟨hg, hQ2⟩ := QI.vote hQ (by omega) (qu_who (i : Int)) (qu_a x119)
  refine Jg (vote_spec F72 F101 v28 l29 (rwDep [quT most] (rwSub [quT most] q 1 0 0 z0 0) 2 (i : Int)).s (rwDep [quT most] (rwSub [quT most] q 1 0 0 z0 0) 2 (i : Int)).xs (rwDep [quT most] (rwSub [quT most] q 1 0 0 z0 0) 2 (i : Int)).cs (i64.wrap (3 + (bAnd (i : Int) 3))) (i : Int) (Vt.mk 1 true 1 (bAnd x119 31) 0 0) _ ho73 ho102 (fun q h1 h2 => dis111 q h2 h1) (hQ.lk (by omega))) ?_
  rintro _ w123 ⟨rfl, ⟨F125, F128, ho126, ho129, hfr127, hfr130, hdis131⟩, hk124⟩
  refine ⟨_, rfl, ?_⟩
  have hsz132 := Keep.size hk124
  replace hcb7 := hcb7.keep hk124 (fun hs => by rcases hs with hs | hs; (have u0 := own85 _ hs; have u1 := lt84 _ hs; omega); (have u0 := own110 _ hs; have u1 := lt109 _ hs; omega))
  replace hbk := hbk.keep hk124 (fun hs => by rcases hs with hs | hs; (have u0 := own85 _ hs; have u1 := lt84 _ hs; omega); (have u0 := own110 _ hs; have u1 := lt109 _ hs; omega))
  replace hK0 := Keep.fresh hK0 hk124 (by intro i hi hs; first | exact hs | (rcases hs with hs | hs; (have u0 := own85 i hs; have u1 := lt84 i hs; omega); (have u0 := own110 i hs; have u1 := lt109 i hs; omega)))
  replace ho99 := ho99.keep hk124 (fun q hq hs => by rcases hs with hs | hs; exact dis108 q hq hs; exact hdis104 q hq hs)
  have own134 : ∀ q, F125 q → w.heap.size ≤ q ∧ q ≠ b7 ∧ q ≠ b25 := fun q hq => by rcases hfr127 q hq with h | h; (have h1 := own85 q h; have h2 := lt84 q h; omega); omega
  have lt133 := VotT.lt ho126
  have dis135 : ∀ q, F125 q → ¬ F98 q := fun q h1 h2 => by rcases hfr127 q h1 with h | h; exact dis108 q h2 h; (have h4 := lt106 q h2; omega)
  have own137 : ∀ q, F128 q → w.heap.size ≤ q ∧ q ≠ b7 ∧ q ≠ b25 := fun q hq => by rcases hfr130 q hq with h | h; (have h1 := own110 q h; have h2 := lt109 q h; omega); omega
  have lt136 := Led.lt ho129
  have dis138 : ∀ q, F128 q → ¬ F98 q := fun q h1 h2 => by rcases hfr130 q h1 with h | h; exact hdis104 q h2 h; (have h4 := lt106 q h2; omega)
  replace ho99 : Rfr F98 w123 r26 gg27 [quT most] (rwVot (rwDep [quT most] (rwSub [quT most] q 1 0 0 z0 0) 2 (i : Int)) (i64.wrap (3 + (bAnd (i : Int) 3))) (i : Int) (Vt.mk 1 true 1 (bAnd x119 31) 0 0)).rs := ho99
  replace ho126 : VotT F125 w123 v28 ((rwVot (rwDep [quT most] (rwSub [quT most] q 1 0 0 z0 0) 2 (i : Int)) (i64.wrap (3 + (bAnd (i : Int) 3))) (i : Int) (Vt.mk 1 true 1 (bAnd x119 31) 0 0)).s) := ho126
  replace ho129 : Led F128 w123 l29 (rwVot (rwDep [quT most] (rwSub [quT most] q 1 0 0 z0 0) 2 (i : Int)) (i64.wrap (3 + (bAnd (i : Int) 3))) (i : Int) (Vt.mk 1 true 1 (bAnd x119 31) 0 0)).xs (rwVot (rwDep [quT most] (rwSub [quT most] q 1 0 0 z0 0) 2 (i : Int)) (i64.wrap (3 + (bAnd (i : Int) 3))) (i : Int) (Vt.mk 1 true 1 (bAnd x119 31) 0 0)).cs := ho129
  refine Gn [] [0, 1, 5, 6, 7, 8, 9, 10, 11] <| GI_end <| X_then <| Vr <| On 4 [0, 1, 5, 6, 7, 9, 10, 11, 93] <| Oq (u := .bool (!(decide ((i : Int) = (i : Int))))) (v := .bool false) 93 (by rw [decide_eq_true (rfl : (i : Int) = (i : Int))]; rfl) <| On 13 [0, 1, 5, 6, 7, 11, 94, 95, 96, 97, 99, 100, 101, 102] ?_
  by_cases hg140 : RW.votE (rwDep [quT most] (rwSub [quT most] q 1 0 0 z0 0) 2 (i : Int)) (i64.wrap (3 + (bAnd (i : Int) 3))) (i : Int) (Vt.mk 1 true 1 (bAnd x119 31) 0 0) = 0
  ·
   refine Nt 102 hg140 <| Oen [0, 1, 5, 6, 7, 94, 95, 96, 97, 100, 101, 102, 103, 104, 105, 106] <| Vf <| V_skip <| X_block <| X_then <| V_region ?_
   have hw141 : i64.wrap ((i : Int) + 1) = ((i + 1 : Nat) : Int) := wrp
   refine On 2 [0, 1, 5, 6, 43, 94, 95, 96, 97, 100, 101, 102, 103, 104, 105] <| Oq (u := nt (i64.wrap ((i : Int) + 1))) (v := nt ((i + 1 : Nat) : Int)) 43 (by rw [hw141]) <| Os 3 [(0, sl_ b118 o118 az.length cap),(1, nt most),(5, pt b7),(6, pt b25),(7, nt ((i + 1 : Nat) : Int)),(94, nt 0),(95, nt 0),(96, nt 0),(97, .bool false),(100, nt (RW.votE (rwDep [quT most] (rwSub [quT most] q 1 0 0 z0 0) 2 (i : Int)) (i64.wrap (3 + (bAnd (i : Int) 3))) (i : Int) (Vt.mk 1 true 1 (bAnd x119 31) 0 0))),(101, .bool (!(decide (RW.votE (rwDep [quT most] (rwSub [quT most] q 1 0 0 z0 0) 2 (i : Int)) (i64.wrap (3 + (bAnd (i : Int) 3))) (i : Int) (Vt.mk 1 true 1 (bAnd x119 31) 0 0) = 0)))),(102, .bool false),(103, undef),(104, undef),(105, .bool false)] <| OI_end rfl ?_
   exact V_again (k55 - 1) (by omega) [(0, sl_ b118 o118 az.length cap),(1, nt most),(5, pt b7),(6, pt b25),(7, nt ((i + 1 : Nat) : Int))] rfl ⟨i + 1, (rwVot (rwDep [quT most] (rwSub [quT most] q 1 0 0 z0 0) 2 (i : Int)) (i64.wrap (3 + (bAnd (i : Int) 3))) (i : Int) (Vt.mk 1 true 1 (bAnd x119 31) 0 0)), F98, F125, F128, by omega, hQ2, hbk, ho99, ho126, ho129, (fun q hq => by have h1 := own107 q hq; have h2 := lt106 q hq; omega),(fun q hq => by have h1 := own134 q hq; have h2 := lt133 q hq; omega),(fun q hq => by have h1 := own137 q hq; have h2 := lt136 q hq; omega),(fun q h1 h2 => dis135 q h2 h1),(fun q h1 h2 => dis138 q h2 h1), hdis131, hK0, hcb7, by omega, rfl⟩
  refine Nf 102 hg140 <| Ose [(0, sl_ b118 o118 az.length cap),(1, nt most),(5, pt b7),(6, pt b25),(7, nt (i : Int)),(94, nt 0),(95, nt 0),(96, nt 0),(97, .bool false),(100, nt (RW.votE (rwDep [quT most] (rwSub [quT most] q 1 0 0 z0 0) 2 (i : Int)) (i64.wrap (3 + (bAnd (i : Int) 3))) (i : Int) (Vt.mk 1 true 1 (bAnd x119 31) 0 0))),(101, .bool (!(decide (RW.votE (rwDep [quT most] (rwSub [quT most] q 1 0 0 z0 0) 2 (i : Int)) (i64.wrap (3 + (bAnd (i : Int) 3))) (i : Int) (Vt.mk 1 true 1 (bAnd x119 31) 0 0) = 0)))),(102, .bool true),(103, nt (RW.votE (rwDep [quT most] (rwSub [quT most] q 1 0 0 z0 0) 2 (i : Int)) (i64.wrap (3 + (bAnd (i : Int) 3))) (i : Int) (Vt.mk 1 true 1 (bAnd x119 31) 0 0))),(104, .bool (!(decide (RW.votE (rwDep [quT most] (rwSub [quT most] q 1 0 0 z0 0) 2 (i : Int)) (i64.wrap (3 + (bAnd (i : Int) 3))) (i : Int) (Vt.mk 1 true 1 (bAnd x119 31) 0 0) = 3)))),(105, .bool (!(decide (RW.votE (rwDep [quT most] (rwSub [quT most] q 1 0 0 z0 0) 2 (i : Int)) (i64.wrap (3 + (bAnd (i : Int) 3))) (i : Int) (Vt.mk 1 true 1 (bAnd x119 31) 0 0) = 3)))),(106, .bool (!(decide (RW.votE (rwDep [quT most] (rwSub [quT most] q 1 0 0 z0 0) 2 (i : Int)) (i64.wrap (3 + (bAnd (i : Int) 3))) (i : Int) (Vt.mk 1 true 1 (bAnd x119 31) 0 0) = 3))))] <| V_not (RW.votE (rwDep [quT most] (rwSub [quT most] q 1 0 0 z0 0) 2 (i : Int)) (i64.wrap (3 + (bAnd (i : Int) 3))) (i : Int) (Vt.mk 1 true 1 (bAnd x119 31) 0 0) = 3) (by kernel_rfl) (fun hc142 => ?_) (fun hc142 => ?_)
  ·
   exact (hg.elim (fun h9 => hg140 h9) (fun h9 => hc142 h9)).elim
  refine V_skip <| X_block <| X_then <| V_region ?_
  have hw143 : i64.wrap ((i : Int) + 1) = ((i + 1 : Nat) : Int) := wrp
  refine On 2 [0, 1, 5, 6, 43, 94, 95, 96, 97, 100, 101, 102, 103, 104, 105] <| Oq (u := nt (i64.wrap ((i : Int) + 1))) (v := nt ((i + 1 : Nat) : Int)) 43 (by rw [hw143]) <| Os 3 [(0, sl_ b118 o118 az.length cap),(1, nt most),(5, pt b7),(6, pt b25),(7, nt ((i + 1 : Nat) : Int)),(94, nt 0),(95, nt 0),(96, nt 0),(97, .bool false),(100, nt (RW.votE (rwDep [quT most] (rwSub [quT most] q 1 0 0 z0 0) 2 (i : Int)) (i64.wrap (3 + (bAnd (i : Int) 3))) (i : Int) (Vt.mk 1 true 1 (bAnd x119 31) 0 0))),(101, .bool (!(decide (RW.votE (rwDep [quT most] (rwSub [quT most] q 1 0 0 z0 0) 2 (i : Int)) (i64.wrap (3 + (bAnd (i : Int) 3))) (i : Int) (Vt.mk 1 true 1 (bAnd x119 31) 0 0) = 0)))),(102, .bool true),(103, nt (RW.votE (rwDep [quT most] (rwSub [quT most] q 1 0 0 z0 0) 2 (i : Int)) (i64.wrap (3 + (bAnd (i : Int) 3))) (i : Int) (Vt.mk 1 true 1 (bAnd x119 31) 0 0))),(104, .bool (!(decide (RW.votE (rwDep [quT most] (rwSub [quT most] q 1 0 0 z0 0) 2 (i : Int)) (i64.wrap (3 + (bAnd (i : Int) 3))) (i : Int) (Vt.mk 1 true 1 (bAnd x119 31) 0 0) = 3)))),(105, .bool (!(decide (RW.votE (rwDep [quT most] (rwSub [quT most] q 1 0 0 z0 0) 2 (i : Int)) (i64.wrap (3 + (bAnd (i : Int) 3))) (i : Int) (Vt.mk 1 true 1 (bAnd x119 31) 0 0) = 3))))] <| OI_end rfl ?_
  exact V_again (k55 - 1) (by omega) [(0, sl_ b118 o118 az.length cap),(1, nt most),(5, pt b7),(6, pt b25),(7, nt ((i + 1 : Nat) : Int))] rfl ⟨i + 1, (rwVot (rwDep [quT most] (rwSub [quT most] q 1 0 0 z0 0) 2 (i : Int)) (i64.wrap (3 + (bAnd (i : Int) 3))) (i : Int) (Vt.mk 1 true 1 (bAnd x119 31) 0 0)), F98, F125, F128, by omega, hQ2, hbk, ho99, ho126, ho129, (fun q hq => by have h1 := own107 q hq; have h2 := lt106 q hq; omega),(fun q hq => by have h1 := own134 q hq; have h2 := lt133 q hq; omega),(fun q hq => by have h1 := own137 q hq; have h2 := lt136 q hq; omega),(fun q h1 h2 => dis135 q h2 h1),(fun q h1 h2 => dis138 q h2 h1), hdis131, hK0, hcb7, by omega, rfl⟩
 refine V_exit <| X_exit_then <| X_exit_then <| X_exit_here <| X_then <| V_seq <| V_seq <| V_draws (acts [15]) none_ [[0, 1, 2, 3, 4, 5, 6, 7, 8, 9, 10, 11, 12, 13, 14, 15, 16, 17]] (by kernel_rfl) (by repeat first | exact (by first | exact sure_body (by rintro _ _ ⟨_, _, h, _⟩; exact ⟨_, h⟩) | exact sure_body (by rintro _ _ ⟨_, _, _, _, _, _, _, _, _, _, _, h, _⟩; exact ⟨_, h⟩) | exact sure_body (by rintro _ _ ⟨h, _⟩; exact ⟨_, h⟩)) | refine sure_then ?_ | refine sure_block ?_ | refine sure_join ?_) (by kernel_rfl) ?_
 intro w145 hk144 he146 L hL147
 have hsz148 := Keep.size hk144
 replace hcb7 := hcb7.k0 hk144
 replace hbk := hbk.k0 hk144
 replace hRk := hRk.keep hk144 nk
 replace hVk := hVk.keep hk144 nk
 replace hLk := hLk.keep hk144 nk
 replace hK0 := hK0.tn hk144
 have qhcb7 := hcb7
 have qhbk := hbk
 have K149 : Keep none_ w145 w145 := Keep.refl _ _
 obtain rfl := List.mem_singleton.1 hL147
 refine Gn [3, 4, 5, 6, 7, 8, 9, 10, 11, 12, 13, 14, 15, 16, 17] [0, 1, 5, 6, 109] <| Mr 2 (pt r26) qhbk <| Gn [7, 8, 9, 10, 11, 12, 13, 14, 15, 16, 17] [0, 1, 5, 6, 110, 113] <| Mr 0 (pt l29) qhbk <| Gn [11, 12, 13, 14, 15, 16, 17] [0, 1, 5, 6, 110, 114, 117] <| Mr 1 (pt v28) qhbk <| Gn [13, 14, 15, 16, 17] [0, 1, 5, 6, 110, 114, 118, 119] <| Mr 2 (nt 2) qhcb7 <| Gs [15, 16, 17] [(0, .slice A az.length cap),(1, nt most),(5, pt b7),(6, pt b25),(110, pt r26),(114, pt l29),(118, pt v28),(121, nt 1)] <| Gk0 (kl 22 #[(.tmp 110),(.tmp 114),(.tmp 118),(.tmp 121)] #[34, 32, 33, 3]) 22 #[pt r26, pt l29, pt v28, nt 1] (some 122) (service_spec Hk r26 gg27 [quT most] q.rs Fk v28 q.s Gz l29 q.xs q.cs 1 _ hRk hVk hLk dkHF dkHG dkFG) ?_
 rintro _ w152 ⟨A154, cap154, rfl, hA154, ow154, ⟨F155, F158, ho156, ho159, hfr157, hfr160, hdis161, dA162, dA163⟩, hk153⟩
 refine ⟨_, rfl, ?_⟩
 have hsz164 := Keep.size hk153
 replace hcb7 := hcb7.keep hk153 (fun hs => by rcases hs with hs | hs; (have u9 : _ = gg27 := hs; have u0 := hHko _ (Rfr.atg hRk); have u1 := ltHk _ (Rfr.atg hRk); omega); (have u0 := hFko _ hs; have u1 := ltFk _ hs; omega))
 replace hbk := hbk.keep hk153 (fun hs => by rcases hs with hs | hs; (have u9 : _ = gg27 := hs; have u0 := hHko _ (Rfr.atg hRk); have u1 := ltHk _ (Rfr.atg hRk); omega); (have u0 := hFko _ hs; have u1 := ltFk _ hs; omega))
 replace hLk := hLk.keep hk153 (fun q hq hs => by rcases hs with hs | hs; exact dkHG q (by rw [show q = gg27 from hs]; exact (Rfr.atg hRk)) hq; exact dkFG q hs hq)
 replace hK0 := Keep.fresh hK0 hk153 (by intro i hi hs; first | exact hs | (rcases hs with hs | hs; (have u9 : _ = gg27 := hs; have u0 := hHko _ (Rfr.atg hRk); have u1 := ltHk _ (Rfr.atg hRk); omega); (have u0 := hFko i hs; have u1 := ltFk i hs; omega)))
 have own166 : ∀ q, F155 q → w.heap.size ≤ q ∧ q ≠ b7 ∧ q ≠ b25 := fun q hq => by rcases hfr157 q hq with h | h; (have h1 := hHko q h; have h2 := ltHk q h; omega); omega
 have lt165 := Rfr.lt ho156
 have dis167 : ∀ q, F155 q → ¬ Gz q := fun q h1 h2 => by rcases hfr157 q h1 with h | h; exact dkHG q h h2; (have h4 := ltGk q h2; omega)
 have own169 : ∀ q, F158 q → w.heap.size ≤ q ∧ q ≠ b7 ∧ q ≠ b25 := fun q hq => by rcases hfr160 q hq with h | h; (have h1 := hFko q h; have h2 := ltFk q h; omega); omega
 have lt168 := VotT.lt ho159
 have dis170 : ∀ q, F158 q → ¬ Gz q := fun q h1 h2 => by rcases hfr160 q h1 with h | h; exact dkFG q h h2; (have h4 := ltGk q h2; omega)
 replace ho156 : Rfr F155 w152 r26 gg27 [quT most] (rwSvc [quT most] q 1).rs := ho156
 replace ho159 : VotT F158 w152 v28 ((rwSvc [quT most] q 1).s) := ho159
 replace hLk : Led Gz w152 l29 (rwSvc [quT most] q 1).xs (rwSvc [quT most] q 1).cs := hLk
 rw [(hQ.early).1] at ho156
 rw [(hQ.early).1] at ho159
 rw [(hQ.early).1] at hLk
 replace ho156 : Rfr F155 w152 r26 gg27 [quT most] q.rs := ho156
 replace ho159 : VotT F158 w152 v28 q.s := ho159
 replace hLk : Led Gz w152 l29 q.xs q.cs := hLk
 refine Gp_ [(0, .slice A az.length cap),(1, nt most),(5, pt b7),(6, pt b25),(122, .slice A154 ((rwEvs [quT most] q 1).length) cap154)] <| Gq_ (u := .slice A154 ((rwEvs [quT most] q 1).length) cap154) (v := .slice A154 0 cap154) 122 (by rw [show (rwEvs [quT most] q 1) = ([] : List Evt) from (hQ.early).2]; rfl) <| Gn [] [0, 1, 5, 6, 124] <| GI_end <| X_then <| Vf <| Vsk <| V_seq <| V_draws (acts [14]) none_ [[0, 1, 2, 3, 4, 5, 6, 7, 8, 9, 10, 11, 12, 13, 14]] (by kernel_rfl) (by repeat first | exact (by first | exact sure_body (by rintro _ _ ⟨_, _, h, _⟩; exact ⟨_, h⟩) | exact sure_body (by rintro _ _ ⟨_, _, _, _, _, _, _, _, _, _, _, h, _⟩; exact ⟨_, h⟩) | exact sure_body (by rintro _ _ ⟨h, _⟩; exact ⟨_, h⟩)) | refine sure_then ?_ | refine sure_block ?_ | refine sure_join ?_) (by kernel_rfl) ?_
 intro w172 hk171 he173 L hL174
 have hsz175 := Keep.size hk171
 replace hcb7 := hcb7.k0 hk171
 replace hbk := hbk.k0 hk171
 replace hLk := hLk.keep hk171 nk
 replace hK0 := hK0.tn hk171
 replace ho156 := ho156.keep hk171 nk
 replace ho159 := ho159.keep hk171 nk
 have qhcb7 := hcb7
 have qhbk := hbk
 have K176 : Keep none_ w172 w172 := Keep.refl _ _
 obtain rfl := List.mem_singleton.1 hL174
 refine Gn [3, 4, 5, 6, 7, 8, 9, 10, 11, 12, 13, 14] [0, 1, 5, 6, 127] <| Mr 2 (pt r26) qhbk <| Gn [7, 8, 9, 10, 11, 12, 13, 14] [0, 1, 5, 6, 128, 131] <| Mr 0 (pt l29) qhbk <| Gn [11, 12, 13, 14] [0, 1, 5, 6, 128, 132, 135] <| Mr 1 (pt v28) qhbk <| Gn [13, 14] [0, 1, 6, 128, 132, 136, 137] <| Mr 2 (nt 2) qhcb7 <| GI_final 14 (by kernel_rfl) (by kernel_rfl) ?_
 obtain ⟨hl1, hl2, hl3, hl4, hl5⟩ := hQ.late (m := most) ⟨by omega, by omega⟩
 refine Kg (service_spec F155 r26 gg27 [quT most] q.rs F158 v28 q.s Gz l29 q.xs q.cs 2 _ ho156 ho159 hLk hdis161 dis167 dis170) ?_
 rintro _ w179 ⟨A181, cap181, rfl, hA181, ow181, ⟨F182, F185, ho183, ho186, hfr184, hfr187, hdis188, dA189, dA190⟩, hk180⟩
 refine ⟨_, rfl, ?_⟩
 have hsz191 := Keep.size hk180
 replace hbk := hbk.keep hk180 (fun hs => by rcases hs with hs | hs; (have u9 : _ = gg27 := hs; have u0 := own166 _ (Rfr.atg ho156); have u1 := lt165 _ (Rfr.atg ho156); omega); (have u0 := own169 _ hs; have u1 := lt168 _ hs; omega))
 replace hLk := hLk.keep hk180 (fun q hq hs => by rcases hs with hs | hs; exact dis167 q (by rw [show q = gg27 from hs]; exact (Rfr.atg ho156)) hq; exact dis170 q hs hq)
 replace hK0 := Keep.fresh hK0 hk180 (by intro i hi hs; first | exact hs | (rcases hs with hs | hs; (have u9 : _ = gg27 := hs; have u0 := own166 _ (Rfr.atg ho156); have u1 := lt165 _ (Rfr.atg ho156); omega); (have u0 := own169 i hs; have u1 := lt168 i hs; omega)))
 have own193 : ∀ q, F182 q → w.heap.size ≤ q ∧ q ≠ b7 ∧ q ≠ b25 := fun q hq => by rcases hfr184 q hq with h | h; (have h1 := own166 q h; have h2 := lt165 q h; omega); omega
 have lt192 := Rfr.lt ho183
 have dis194 : ∀ q, F182 q → ¬ Gz q := fun q h1 h2 => by rcases hfr184 q h1 with h | h; exact dis167 q h h2; (have h4 := ltGk q h2; omega)
 have own196 : ∀ q, F185 q → w.heap.size ≤ q ∧ q ≠ b7 ∧ q ≠ b25 := fun q hq => by rcases hfr187 q hq with h | h; (have h1 := own169 q h; have h2 := lt168 q h; omega); omega
 have lt195 := VotT.lt ho186
 have dis197 : ∀ q, F185 q → ¬ Gz q := fun q h1 h2 => by rcases hfr187 q h1 with h | h; exact dis170 q h h2; (have h4 := ltGk q h2; omega)
 replace ho183 : Rfr F182 w179 r26 gg27 [quT most] (rwSvc [quT most] q 2).rs := ho183
 replace ho186 : VotT F185 w179 v28 ((rwSvc [quT most] q 2).s) := ho186
 replace hLk : Led Gz w179 l29 (rwSvc [quT most] q 2).xs (rwSvc [quT most] q 2).cs := hLk
 refine Oer <| On 3 [0, 1, 6, 143] <| Lr 2 (pt r26) hbk <| Kg (rall_spec F182 r26 gg27 [quT most] (rwSvc [quT most] q 2).rs _ ho183) ?_
 rintro _ w198 ⟨A200, cap200, rfl, hA200, ow200, hk199⟩
 refine ⟨_, rfl, ?_⟩
 have hsz201 := Keep.size hk199
 replace hK0 := hK0.tn hk199
 replace ho186 := ho186.keep hk199 nk
 have ltA200 := SlT.lt hA200
 have dis202 : ∀ q, F182 q → ¬ inA A200 q := fun q h1 h2 => by have h3 := ow200 q h2; have h4 := lt192 q h1; omega
 have dis203 : ∀ q, F185 q → ¬ inA A200 q := fun q h1 h2 => by have h3 := ow200 q h2; have h4 := lt195 q h1; omega
 have dis204 : ∀ q, Gz q → ¬ inA A200 q := fun q h1 h2 => by have h3 := ow200 q h2; have h4 := ltGk q h1; omega
 refine On 10 [0, 1, 6, 12, 13] <| Oe <| V_seq <| Vn [0, 1, 6, 12, 156] <| Vq (u := .bool (!(decide ((((rwSvc [quT most] q 2).rs.length : Nat) : Int) = (az.length : Int))))) (v := .bool false) 156 (by rw [decide_eq_true (show ((((rwSvc [quT most] q 2).rs.length : Nat) : Int) = (az.length : Int)) from (by rw [hl2]; omega))]; rfl) <| Vf <| Vsk <| Vr <| On 1 [0, 1, 6, 12, 14] <| Oe <| V_seq <| Vn [0, 1, 6, 12, 14, 15] <| V_block <| Vp [(0, .slice A az.length cap),(1, nt most),(6, pt b25),(12, .slice A200 ((rwSvc [quT most] q 2).rs.length) cap200),(14, nt 0),(15, nt 0)] <| V_loop (fun k wI e => ∃ i2 : Nat, ∃ c : Int, (k + i2 = (rwSvc [quT most] q 2).rs.length) ∧ (c = qN (quB most q) i2) ∧ Keep none_ w198 wI ∧ e = [(0, .slice A az.length cap),(1, nt most),(6, pt b25),(12, .slice A200 ((rwSvc [quT most] q 2).rs.length) cap200),(14, nt c),(15, nt (i2 : Int))]) ((rwSvc [quT most] q 2).rs.length) ⟨0, 0, by omega, rfl, Keep.refl _ _, rfl⟩ ?_
 rintro k207 w206 _ ⟨i2, c, hki2, hc, hk208, rfl⟩
 have hsz209 := Keep.size hk208
 replace hbk := hbk.k0 (hk199.tr hk208)
 replace hA200 := hA200.keep0 hk208
 replace hK0 := hK0.tn hk208
 replace ho186 := ho186.keep hk208 nk
 have hzhk208 := Keep.size hk208
 have hcb := qN_bnd (quB most q) i2
 refine V_seq <| Vn [0, 1, 6, 12, 14, 15, 160] <| Vi ((i2 : Int) < (((rwSvc [quT most] q 2).rs.length : Nat) : Int)) (fun hc210 => ?_) (fun hc210 => ?_)
 ·
  refine Vsk <| V_seq <| V_block <| V_seq <| Vr <| On 2 [0, 1, 6, 12, 14, 15, 163, 164] ?_
  obtain ⟨b211, o211, L211, T211, rfl, hat211⟩ := SlT.opn hA200
  have hb211lt := hat211.blk.lt
  have hob212 := ow200 b211 ⟨_, rfl, rfl⟩
  have hob213 := ltA200 b211 ⟨_, rfl, rfl⟩
  have hne214 : ∀ q, Gz q → q ≠ b211 := fun q hq hs => dis204 q hq ⟨_, rfl, hs⟩
  have own215 := fun q hq => And.intro (hGko q hq) (hne214 q hq)
  have hne216 : ∀ q, F182 q → q ≠ b211 := fun q hq hs => dis202 q hq ⟨_, rfl, hs⟩
  have own217 := fun q hq => And.intro (own193 q hq) (hne216 q hq)
  have hne218 : ∀ q, F185 q → q ≠ b211 := fun q hq hs => dis203 q hq ⟨_, rfl, hs⟩
  have own219 := fun q hq => And.intro (own196 q hq) (hne218 q hq)
  refine Oi (b := b211) (o := o211) (len := (rwSvc [quT most] q 2).rs.length) (cap := cap200) (j := i2) (some 165) 45 (.tmp 163) (.tmp 164) 57 45 136 .i64 <| On 4 [0, 1, 6, 12, 14, 15, 166] ?_
  obtain ⟨x220, hx221⟩ := exAt (xs := (rwSvc [quT most] q 2).rs) (i := i2)
  refine Lc (o211 + i2 * 45 + 39) (nt x220.since) hat211.blk (At.cell hat211 (es_at hx221) rfl) <| Oen [0, 1, 6, 12, 14, 15, 168] <| Vi (x220.since < 0) (fun hc222 => ?_) (fun hc222 => ?_)
  ·
   have hiN := (hl3 i2 x220 hx221).1 hc222
   refine V_exit <| X_exit_then <| X_exit_here <| X_then <| V_region ?_
   have hw223 : i64.wrap ((i2 : Int) + 1) = ((i2 + 1 : Nat) : Int) := wrp
   refine On 2 [0, 1, 6, 12, 14, 162] <| Oq (u := nt (i64.wrap ((i2 : Int) + 1))) (v := nt ((i2 + 1 : Nat) : Int)) 162 (by rw [hw223]) <| Os 3 [(0, .slice A az.length cap),(1, nt most),(6, pt b25),(12, sl_ b211 o211 ((rwSvc [quT most] q 2).rs.length) cap200),(14, nt c),(15, nt ((i2 + 1 : Nat) : Int))] <| OI_end rfl ?_
   exact V_again (k207 - 1) (by omega) [(0, .slice A az.length cap),(1, nt most),(6, pt b25),(12, sl_ b211 o211 ((rwSvc [quT most] q 2).rs.length) cap200),(14, nt c),(15, nt ((i2 + 1 : Nat) : Int))] rfl ⟨i2 + 1, c, by omega, by rw [qN_no hiN]; omega, hk208, rfl⟩
  have hiB : (i2 : Int) ∈ (quB most q) := Classical.not_not.1 (fun h9 => hc222 ((hl3 i2 x220 hx221).2 h9))
  refine Vsk <| Vr ?_
  have hw224 : i64.wrap (c + 1) = c + 1 := wrp
  refine On 2 [0, 1, 6, 12, 15, 170] <| Oq (u := nt (i64.wrap (c + 1))) (v := nt (c + 1)) 170 (by rw [hw224]) <| On 3 [0, 1, 6, 12, 14, 15] <| Oer <| Oen [0, 1, 6, 12, 14, 15, 16] <| V_block <| Vp [(0, .slice A az.length cap),(1, nt most),(6, pt b25),(12, sl_ b211 o211 ((rwSvc [quT most] q 2).rs.length) cap200),(14, nt (c + 1)),(15, nt (i2 : Int)),(16, nt 0)] <| V_loop (fun k wI e => ∃ k2 : Nat, (k + k2 = (rwSvc [quT most] q 2).rs.length) ∧ Keep none_ w206 wI ∧ e = [(0, .slice A az.length cap),(1, nt most),(6, pt b25),(12, sl_ b211 o211 ((rwSvc [quT most] q 2).rs.length) cap200),(14, nt (c + 1)),(15, nt (i2 : Int)),(16, nt (k2 : Int))]) ((rwSvc [quT most] q 2).rs.length) ⟨0, by omega, Keep.refl _ _, rfl⟩ ?_
  rintro k226 w225 _ ⟨k2, hkk2, hk227, rfl⟩
  have hsz228 := Keep.size hk227
  replace hbk := hbk.k0 hk227
  replace hat211 := hat211.keep hk227 id
  replace ho186 := ho186.keep hk227 nk
  replace hk208 := hk208.tn hk227
  have hzhk227 := Keep.size hk227
  refine V_seq <| Vn [0, 1, 6, 12, 14, 15, 16, 174] <| Vi ((k2 : Int) < (((rwSvc [quT most] q 2).rs.length : Nat) : Int)) (fun hc229 => ?_) (fun hc229 => ?_)
  ·
   refine Vsk <| V_seq <| V_block <| V_seq <| V_draws (acts [5, 12]) none_ [[0, 1, 2, 3, 4, 5, 7, 8, 9, 10, 11, 12, 6, 13, 14, 15]] (by kernel_rfl) (by repeat first | exact (by first | exact sure_body (by rintro _ _ ⟨_, _, h, _⟩; exact ⟨_, h⟩) | exact sure_body (by rintro _ _ ⟨_, _, _, _, _, _, _, _, _, _, _, h, _⟩; exact ⟨_, h⟩) | exact sure_body (by rintro _ _ ⟨h, _⟩; exact ⟨_, h⟩)) | refine sure_then ?_ | refine sure_block ?_ | refine sure_join ?_) (by kernel_rfl) ?_
   intro w231 hk230 he232 L hL233
   have hsz234 := Keep.size hk230
   replace hbk := hbk.k0 hk230
   replace hat211 := hat211.keep hk230 id
   replace ho186 := ho186.keep hk230 nk
   replace hk227 := hk227.tn hk230
   have qhbk := hbk
   have K235 : Keep none_ w231 w231 := Keep.refl _ _
   obtain rfl := List.mem_singleton.1 hL233
   refine Gn [3, 4, 5, 7, 8, 9, 10, 11, 12, 6, 13, 14, 15] [0, 1, 6, 12, 14, 15, 16, 179] <| Mr 1 (pt v28) qhbk <| Gn [5, 7, 8, 9, 10, 11, 12, 6, 13, 14, 15] [0, 1, 6, 12, 14, 15, 16, 180, 181] <| Hg (tally_spec F185 v28 (rwSvc [quT most] q 2).s (i2 : Int) _ (ho186).1) ?_
   rintro _ w236 ⟨rfl, hk237⟩
   have K238 := K235.tr (Keep.ofNone hk237)
   refine ⟨_, rfl, K238, ?_⟩
   have hzK238 := Keep.size K238
   have hsz239 := Keep.size hk237
   replace hat211 := hat211.keep hk237 id
   replace ho186 := ho186.keep hk237 nk
   replace hk227 := hk227.tn hk237
   refine Gn [10, 11, 12, 6, 13, 14, 15] [0, 1, 6, 12, 14, 15, 16, 182, 186] <| Mr 1 (pt v28) qhbk <| Gn [12, 6, 13, 14, 15] [0, 1, 6, 12, 14, 15, 16, 182, 187, 188] <| Jk (tally_spec F185 v28 (rwSvc [quT most] q 2).s (k2 : Int) _ (ho186).1) fun w240 hk241 _ => ?_
   replace hat211 := hat211.keep hk241 id
   replace hk227 := hk227.tn hk241
   refine Gn [] [0, 1, 6, 12, 14, 15, 16, 17, 18] <| GI_end <| X_then <| Vr <| On 2 [0, 1, 6, 12, 14, 15, 16, 17, 18, 191, 192] <| Oi (b := b211) (o := o211) (len := (rwSvc [quT most] q 2).rs.length) (cap := cap200) (j := k2) (some 193) 45 (.tmp 191) (.tmp 192) 57 45 136 .i64 <| On 4 [0, 1, 6, 12, 14, 15, 16, 17, 18, 194] ?_
   obtain ⟨x243, hx244⟩ := exAt (xs := (rwSvc [quT most] q 2).rs) (i := k2)
   refine Lc (o211 + k2 * 45 + 39) (nt x243.since) hat211.blk (At.cell hat211 (es_at hx244) rfl) <| Os 7 [(0, .slice A az.length cap),(1, nt most),(6, pt b25),(12, sl_ b211 o211 ((rwSvc [quT most] q 2).rs.length) cap200),(14, nt (c + 1)),(15, nt (i2 : Int)),(16, nt (k2 : Int)),(17, nt ((tallyT (rwSvc [quT most] q 2).s (i2 : Int)).a)),(18, nt ((tallyT (rwSvc [quT most] q 2).s (k2 : Int)).a)),(197, .bool (decide (x243.since < 0)))] ?_
   by_cases hg245 : x243.since < 0
   ·
    have hkN := (hl3 k2 x243 hx244).1 hg245
    have hb9 := hl5 i2 k2 (by omega) (by omega) hiB hkN
    rw [← hl1] at hb9
    simp only [QP] at hb9
    refine OI_eq [(0, .slice A az.length cap),(1, nt most),(6, pt b25),(12, sl_ b211 o211 ((rwSvc [quT most] q 2).rs.length) cap200),(14, nt (c + 1)),(15, nt (i2 : Int)),(16, nt (k2 : Int)),(17, nt ((tallyT (rwSvc [quT most] q 2).s (i2 : Int)).a)),(18, nt ((tallyT (rwSvc [quT most] q 2).s (k2 : Int)).a)),(197, .bool true)] (by first | simp [hg245] | rfl) <| Os 11 [(0, .slice A az.length cap),(1, nt most),(6, pt b25),(12, sl_ b211 o211 ((rwSvc [quT most] q 2).rs.length) cap200),(14, nt (c + 1)),(15, nt (i2 : Int)),(16, nt (k2 : Int)),(17, nt ((tallyT (rwSvc [quT most] q 2).s (i2 : Int)).a)),(18, nt ((tallyT (rwSvc [quT most] q 2).s (k2 : Int)).a)),(197, .bool true),(198, nt ((tallyT (rwSvc [quT most] q 2).s (k2 : Int)).a)),(199, nt ((tallyT (rwSvc [quT most] q 2).s (i2 : Int)).a)),(200, .bool (decide ((tallyT (rwSvc [quT most] q 2).s (k2 : Int)).a > (tallyT (rwSvc [quT most] q 2).s (i2 : Int)).a))),(201, .bool (decide ((tallyT (rwSvc [quT most] q 2).s (k2 : Int)).a > (tallyT (rwSvc [quT most] q 2).s (i2 : Int)).a)))] ?_
    by_cases hg246 : (tallyT (rwSvc [quT most] q 2).s (k2 : Int)).a > (tallyT (rwSvc [quT most] q 2).s (i2 : Int)).a
    ·
     exact (by omega : False).elim
    refine Df 201 hg246 <| On 15 [0, 1, 6, 12, 14, 15, 16, 197, 198, 199, 200, 201, 202, 203, 204, 205] ?_
    by_cases hg247 : (tallyT (rwSvc [quT most] q 2).s (k2 : Int)).a = (tallyT (rwSvc [quT most] q 2).s (i2 : Int)).a
    ·
     refine Dt 205 hg247 <| Ose [(0, .slice A az.length cap),(1, nt most),(6, pt b25),(12, sl_ b211 o211 ((rwSvc [quT most] q 2).rs.length) cap200),(14, nt (c + 1)),(15, nt (i2 : Int)),(16, nt (k2 : Int)),(198, nt ((tallyT (rwSvc [quT most] q 2).s (k2 : Int)).a)),(199, nt ((tallyT (rwSvc [quT most] q 2).s (i2 : Int)).a)),(200, .bool (decide ((tallyT (rwSvc [quT most] q 2).s (k2 : Int)).a > (tallyT (rwSvc [quT most] q 2).s (i2 : Int)).a))),(201, .bool false),(202, nt ((tallyT (rwSvc [quT most] q 2).s (k2 : Int)).a)),(203, nt ((tallyT (rwSvc [quT most] q 2).s (i2 : Int)).a)),(204, .bool (decide ((tallyT (rwSvc [quT most] q 2).s (k2 : Int)).a = (tallyT (rwSvc [quT most] q 2).s (i2 : Int)).a))),(205, .bool true),(206, nt (k2 : Int)),(207, nt (i2 : Int)),(208, .bool (decide ((k2 : Int) < (i2 : Int)))),(209, .bool (decide ((k2 : Int) < (i2 : Int)))),(210, .bool (decide ((k2 : Int) < (i2 : Int)))),(211, .bool (decide ((k2 : Int) < (i2 : Int))))] <| Vi ((k2 : Int) < (i2 : Int)) (fun hc248 => ?_) (fun hc248 => ?_)
     ·
      exact (by omega : False).elim
     refine V_skip <| X_block <| X_then <| V_region ?_
     have hw249 : i64.wrap ((k2 : Int) + 1) = ((k2 + 1 : Nat) : Int) := wrp
     refine On 2 [0, 1, 6, 12, 14, 15, 176, 198, 199, 200, 201, 202, 203, 204, 205, 206, 207, 208, 209, 210] <| Oq (u := nt (i64.wrap ((k2 : Int) + 1))) (v := nt ((k2 + 1 : Nat) : Int)) 176 (by rw [hw249]) <| Os 3 [(0, .slice A az.length cap),(1, nt most),(6, pt b25),(12, sl_ b211 o211 ((rwSvc [quT most] q 2).rs.length) cap200),(14, nt (c + 1)),(15, nt (i2 : Int)),(16, nt ((k2 + 1 : Nat) : Int)),(198, nt ((tallyT (rwSvc [quT most] q 2).s (k2 : Int)).a)),(199, nt ((tallyT (rwSvc [quT most] q 2).s (i2 : Int)).a)),(200, .bool (decide ((tallyT (rwSvc [quT most] q 2).s (k2 : Int)).a > (tallyT (rwSvc [quT most] q 2).s (i2 : Int)).a))),(201, .bool false),(202, nt ((tallyT (rwSvc [quT most] q 2).s (k2 : Int)).a)),(203, nt ((tallyT (rwSvc [quT most] q 2).s (i2 : Int)).a)),(204, .bool (decide ((tallyT (rwSvc [quT most] q 2).s (k2 : Int)).a = (tallyT (rwSvc [quT most] q 2).s (i2 : Int)).a))),(205, .bool true),(206, nt (k2 : Int)),(207, nt (i2 : Int)),(208, .bool (decide ((k2 : Int) < (i2 : Int)))),(209, .bool (decide ((k2 : Int) < (i2 : Int)))),(210, .bool (decide ((k2 : Int) < (i2 : Int))))] <| OI_end rfl ?_
     exact V_again (k226 - 1) (by omega) [(0, .slice A az.length cap),(1, nt most),(6, pt b25),(12, sl_ b211 o211 ((rwSvc [quT most] q 2).rs.length) cap200),(14, nt (c + 1)),(15, nt (i2 : Int)),(16, nt ((k2 + 1 : Nat) : Int))] rfl ⟨k2 + 1, by omega, hk227, rfl⟩
    refine Df 205 hg247 <| Oen [0, 1, 6, 12, 14, 15, 16, 198, 199, 200, 201, 202, 203, 204, 205, 206, 207, 208, 209, 210, 211] <| Vf <| V_skip <| X_block <| X_then <| V_region ?_
    have hw250 : i64.wrap ((k2 : Int) + 1) = ((k2 + 1 : Nat) : Int) := wrp
    refine On 2 [0, 1, 6, 12, 14, 15, 176, 198, 199, 200, 201, 202, 203, 204, 205, 206, 207, 208, 209, 210] <| Oq (u := nt (i64.wrap ((k2 : Int) + 1))) (v := nt ((k2 + 1 : Nat) : Int)) 176 (by rw [hw250]) <| Os 3 [(0, .slice A az.length cap),(1, nt most),(6, pt b25),(12, sl_ b211 o211 ((rwSvc [quT most] q 2).rs.length) cap200),(14, nt (c + 1)),(15, nt (i2 : Int)),(16, nt ((k2 + 1 : Nat) : Int)),(198, nt ((tallyT (rwSvc [quT most] q 2).s (k2 : Int)).a)),(199, nt ((tallyT (rwSvc [quT most] q 2).s (i2 : Int)).a)),(200, .bool (decide ((tallyT (rwSvc [quT most] q 2).s (k2 : Int)).a > (tallyT (rwSvc [quT most] q 2).s (i2 : Int)).a))),(201, .bool false),(202, nt ((tallyT (rwSvc [quT most] q 2).s (k2 : Int)).a)),(203, nt ((tallyT (rwSvc [quT most] q 2).s (i2 : Int)).a)),(204, .bool (decide ((tallyT (rwSvc [quT most] q 2).s (k2 : Int)).a = (tallyT (rwSvc [quT most] q 2).s (i2 : Int)).a))),(205, .bool false),(206, undef),(207, undef),(208, undef),(209, .bool false),(210, .bool false)] <| OI_end rfl ?_
    exact V_again (k226 - 1) (by omega) [(0, .slice A az.length cap),(1, nt most),(6, pt b25),(12, sl_ b211 o211 ((rwSvc [quT most] q 2).rs.length) cap200),(14, nt (c + 1)),(15, nt (i2 : Int)),(16, nt ((k2 + 1 : Nat) : Int))] rfl ⟨k2 + 1, by omega, hk227, rfl⟩
   refine Df 197 hg245 <| Oen [0, 1, 6, 12, 14, 15, 16, 198, 199, 200, 201, 202, 203, 204, 205, 206, 207, 208, 209, 210, 211] <| Vf <| V_skip <| X_block <| X_then <| V_region ?_
   have hw251 : i64.wrap ((k2 : Int) + 1) = ((k2 + 1 : Nat) : Int) := wrp
   refine On 2 [0, 1, 6, 12, 14, 15, 176, 198, 199, 200, 201, 202, 203, 204, 205, 206, 207, 208, 209, 210] <| Oq (u := nt (i64.wrap ((k2 : Int) + 1))) (v := nt ((k2 + 1 : Nat) : Int)) 176 (by rw [hw251]) <| Os 3 [(0, .slice A az.length cap),(1, nt most),(6, pt b25),(12, sl_ b211 o211 ((rwSvc [quT most] q 2).rs.length) cap200),(14, nt (c + 1)),(15, nt (i2 : Int)),(16, nt ((k2 + 1 : Nat) : Int)),(198, undef),(199, undef),(200, undef),(201, undef),(202, undef),(203, undef),(204, undef),(205, undef),(206, undef),(207, undef),(208, undef),(209, undef),(210, undef)] <| OI_end rfl ?_
   exact V_again (k226 - 1) (by omega) [(0, .slice A az.length cap),(1, nt most),(6, pt b25),(12, sl_ b211 o211 ((rwSvc [quT most] q 2).rs.length) cap200),(14, nt (c + 1)),(15, nt (i2 : Int)),(16, nt ((k2 + 1 : Nat) : Int))] rfl ⟨k2 + 1, by omega, hk227, rfl⟩
  refine V_exit <| X_exit_then <| X_exit_then <| X_exit_here <| X_block <| X_then <| V_region ?_
  have hw252 : i64.wrap ((i2 : Int) + 1) = ((i2 + 1 : Nat) : Int) := wrp
  refine On 2 [0, 1, 6, 12, 14, 162] <| Oq (u := nt (i64.wrap ((i2 : Int) + 1))) (v := nt ((i2 + 1 : Nat) : Int)) 162 (by rw [hw252]) <| Os 3 [(0, .slice A az.length cap),(1, nt most),(6, pt b25),(12, sl_ b211 o211 ((rwSvc [quT most] q 2).rs.length) cap200),(14, nt (c + 1)),(15, nt ((i2 + 1 : Nat) : Int))] <| OI_end rfl ?_
  exact V_again (k207 - 1) (by omega) [(0, .slice A az.length cap),(1, nt most),(6, pt b25),(12, sl_ b211 o211 ((rwSvc [quT most] q 2).rs.length) cap200),(14, nt (c + 1)),(15, nt ((i2 + 1 : Nat) : Int))] rfl ⟨i2 + 1, c + 1, by omega, by rw [qN_yes hiB]; omega, hk208, rfl⟩
 refine V_exit <| X_exit_then <| X_exit_then <| X_exit_here <| X_then <| Vr <| On 7 [218] <| Oq (u := .bool (decide (c = imin most (az.length : Int)))) (v := .bool true) 218 (by rw [decide_eq_true (show (c = imin most (az.length : Int)) from (by rw [hc, show i2 = i by omega, hl4, show i = az.length by omega]))]) <| Kk (known_spec _) fun w254 hk255 _ => ?_
 replace hK0 := hK0.tn hk255
 exact Oen [4] <| Rr (.bool true) ⟨rfl, hK0⟩
theorem lift_intQ (x : List Value) (h : Flat [.int .i64] x) : ∃ y : Int, intc y = x := by
  cases x with
  | nil => exact h.elim
  | cons v l =>
    cases l with
    | nil => obtain ⟨⟨n, rfl, _⟩, _⟩ := h; exact ⟨n, rfl⟩
    | cons u l => exact h.2.elim
theorem over_ReferQueue {H : Type} {enc : TypeId × Value → H} {A : Option Addr} {len cap : Nat} {d : DataW H} {ps : List MemPlace} {w : World} (h : DataW.Trod enc Tryz.prog w 0 (fun _ => true) true 72 (.slice A len cap) d ps) (most : Int) : Calls Tryz.prog 9 #[.slice A len cap, nt most] w (rk_ w (.bool true)) := by
  obtain ⟨az, rfl, hA, hl1, hc⟩ := read_elems (f := intc) (ks := [.int .i64]) (n := 1) (sz := 1) lift_intQ Tryz.underlying72 (by kernel_rfl) (by kernel_rfl) rfl (by decide) h
  exact walk_ReferQueue A cap az most w hA (by unfold maxLen at hc; omega)
end Go.Al
