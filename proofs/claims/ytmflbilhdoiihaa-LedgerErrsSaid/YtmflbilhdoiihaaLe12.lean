/-
  Walks of the laws of ledger: what is made; what is moved to oneself.
-/
import Derived.Test.YtmflbilhdoiihaaLe11
namespace Go.Al
open Go Go.RowKit Go.Proofs
/-! ### What is made can be burnt again -/
def mt (a d : Acc) : List Acc := [a, Acc.mk 0 0, Acc.mk 0 0, d, Acc.mk 0 0, Acc.mk 0 0, Acc.mk 0 0, Acc.mk 0 0, Acc.mk 0 0, Acc.mk 0 0]
theorem new_mt (x : Int) : newX [x] 10 = mt (Acc.mk x 0) (Acc.mk 0 0) := rfl
theorem tot_mt (a d : Acc) : tot (mt a d) = a.free + a.held + (d.free + d.held) := by simp [mt, tot]
theorem one_ok {x : Int} (h1 : 0 ≤ x) (h3 : x ≤ 1073741824) : okP [x] := by
  refine ⟨by simp, fun z hz => ?_, ?_⟩
  · simp only [List.mem_cons, List.not_mem_nil, or_false] at hz
    rcases hz with rfl; omega
  · rw [new_mt, tot_mt]; simp only []; omega
theorem isA3 : isA 3 = true := rfl
theorem acct_mt3 (a d : Acc) : acct (mt a d) 3 = d := rfl
theorem set_mt3 (a d y : Acc) : setA (mt a d) 3 y = mt a y := rfl
theorem mt_mint {hv n : Int} (h1 : 0 ≤ hv) (h2 : hv ≤ 1073741824) (h3 : 0 ≤ n) (h4 : n ≤ 1073741824) : ∃ e m, mintE (mt (Acc.mk hv 0) (Acc.mk 0 0)) 3 n = e ∧ mintX (mt (Acc.mk hv 0) (Acc.mk 0 0)) 3 n = mt (Acc.mk hv 0) (Acc.mk m 0) ∧ ((n > 1073741824 - hv ∧ e = 10 ∧ m = 0) ∨ (¬ n > 1073741824 - hv ∧ e = 0 ∧ m = n)) := by
  have ht : tot (mt (Acc.mk hv 0) (Acc.mk 0 0)) = hv := by rw [tot_mt]; simp
  have hE : mintE (mt (Acc.mk hv 0) (Acc.mk 0 0)) 3 n = if n > 1073741824 - hv then 10 else 0 := by
    unfold mintE
    rw [if_neg (by rw [isA3]; rintro (h | h); cases h; exact h ⟨h3, h4⟩), ht]
  by_cases h : n > 1073741824 - hv
  · refine ⟨10, 0, by rw [hE, if_pos h], ?_, .inl ⟨h, rfl, rfl⟩⟩
    unfold mintX; rw [hE, if_pos h]; rfl
  · refine ⟨0, n, by rw [hE, if_neg h], ?_, .inr ⟨h, rfl, rfl⟩⟩
    unfold mintX; rw [hE, if_neg h, if_pos rfl]; unfold addF; rw [acct_mt3, set_mt3]; simp
theorem sp_mt {a : Acc} {m n : Int} (h1 : 0 ≤ n) (h2 : n ≤ m) (h3 : m ≤ 1073741824) : spendsE (mt a (Acc.mk m 0)) [] 3 n = 0 := by
  unfold spendsE
  rw [if_neg (by rw [isA3]; rintro (h | h); cases h; exact h ⟨h1, by omega⟩), if_neg (by rw [acct_mt3]; simp only []; omega), if_neg (by rw [acct_mt3, locked0]; simp only []; omega)]
theorem sp_mt1 {a : Acc} {m : Int} (h2 : m = 0) : spendsE (mt a (Acc.mk m 0)) [] 3 1 = 6 := by
  subst h2
  rfl

theorem walk_LedgerMints (hv n : Int) (w : World) : Calls Try.prog 7 #[.int .i64 hv, .int .i64 n] w fun e w' => e = .returned (.bool true) ∧ Keep none_ w w' := by
  have hK0 : Keep none_ w w := Keep.refl _ _
  have hzhK0 := Keep.size hK0
  refine enterV Try.func7 rfl [.int .i64 hv, .int .i64 n] 91 rfl rfl rfl ?_
  refine V_pick [(0, .int .i64 hv), (1, .int .i64 n)] rfl ?_
  refine V_seq ?_
  refine V_region ?_
  refine OI_static 1 [(0, .int .i64 hv), (1, .int .i64 n)] (by kernel_rfl) ?_
  refine OI_end rfl ?_
  refine X_then ?_
  refine V_seq ?_
  refine V_seq ?_
  refine V_region ?_
  refine OI_static 3 [(0, .int .i64 hv), (1, .int .i64 n), (12, .bool (decide (hv < 0)))] (by kernel_rfl) ?_
  by_cases hg1 : hv < 0
  · skip
    refine OI_eq [(0, .int .i64 hv), (1, .int .i64 n), (12, .bool true)] (by first | simp [hg1] | rfl) ?_
    refine OI_static 14 [(0, .int .i64 hv), (1, .int .i64 n), (23, .bool true)] (by kernel_rfl) ?_
    refine OI_end rfl ?_
    refine X_then ?_
    refine V_true rfl ?_
    refine V_seq ?_
    refine V_region ?_
    refine OI_static 1 [(4, .bool true)] (by kernel_rfl) ?_
    refine OI_end rfl ?_
    refine X_then ?_
    refine V_ret ?_
    refine X_ret_then ?_
    exact X_return (.bool true) rfl ⟨rfl, hK0⟩
  · skip
    refine OI_eq [(0, .int .i64 hv), (1, .int .i64 n), (12, .bool false)] (by first | simp [hg1] | rfl) ?_
    refine OI_static 7 [(0, .int .i64 hv), (1, .int .i64 n), (16, .bool (decide (hv > 1073741824)))] (by kernel_rfl) ?_
    by_cases hg2 : hv > 1073741824
    · skip
      refine OI_eq [(0, .int .i64 hv), (1, .int .i64 n), (16, .bool true)] (by first | simp [hg2] | rfl) ?_
      refine OI_static 14 [(0, .int .i64 hv), (1, .int .i64 n), (23, .bool true)] (by kernel_rfl) ?_
      refine OI_end rfl ?_
      refine X_then ?_
      refine V_true rfl ?_
      refine V_seq ?_
      refine V_region ?_
      refine OI_static 1 [(4, .bool true)] (by kernel_rfl) ?_
      refine OI_end rfl ?_
      refine X_then ?_
      refine V_ret ?_
      refine X_ret_then ?_
      exact X_return (.bool true) rfl ⟨rfl, hK0⟩
    · skip
      refine OI_eq [(0, .int .i64 hv), (1, .int .i64 n), (16, .bool false)] (by first | simp [hg2] | rfl) ?_
      refine OI_static 11 [(0, .int .i64 hv), (1, .int .i64 n), (20, .bool (decide (n < 0)))] (by kernel_rfl) ?_
      by_cases hg3 : n < 0
      · skip
        refine OI_eq [(0, .int .i64 hv), (1, .int .i64 n), (20, .bool true)] (by first | simp [hg3] | rfl) ?_
        refine OI_static 14 [(0, .int .i64 hv), (1, .int .i64 n), (23, .bool true)] (by kernel_rfl) ?_
        refine OI_end rfl ?_
        refine X_then ?_
        refine V_true rfl ?_
        refine V_seq ?_
        refine V_region ?_
        refine OI_static 1 [(4, .bool true)] (by kernel_rfl) ?_
        refine OI_end rfl ?_
        refine X_then ?_
        refine V_ret ?_
        refine X_ret_then ?_
        exact X_return (.bool true) rfl ⟨rfl, hK0⟩
      · skip
        refine OI_eq [(0, .int .i64 hv), (1, .int .i64 n), (20, .bool false)] (by first | simp [hg3] | rfl) ?_
        refine OI_static 14 [(0, .int .i64 hv), (1, .int .i64 n), (23, .bool (decide (n > 1073741824)))] (by kernel_rfl) ?_
        refine OI_end rfl ?_
        refine X_then ?_
        refine V_if (n > 1073741824) (by kernel_rfl) (fun hc4 => ?_) (fun hc4 => ?_)
        · skip
          refine V_seq ?_
          refine V_region ?_
          refine OI_static 1 [(4, .bool true)] (by kernel_rfl) ?_
          refine OI_end rfl ?_
          refine X_then ?_
          refine V_ret ?_
          refine X_ret_then ?_
          exact X_return (.bool true) rfl ⟨rfl, hK0⟩
        · skip
          refine V_skip ?_
          refine X_then ?_
          refine V_seq ?_
          refine V_region ?_
          refine OI_static 1 [(0, .int .i64 hv), (1, .int .i64 n), (25, .int .i64 hv)] (by kernel_rfl) ?_
          refine OI_slit (E := 3) (zv := .int .i64 0) (sz := 1) (by_ := 8) 26 1 #[(0, (Operand.tmp 25))] [.int .i64 hv] [.int .i64 hv] (some 26) (by kernel_rfl) (by kernel_rfl) (by kernel_rfl) (by omega) rfl (by omega) (by intro v hv; simp only [List.mem_cons, List.not_mem_nil, or_false] at hv; rcases hv with rfl <;> rfl) (by kernel_rfl) rfl ?_
          intro b5 w5 e5 hb5 k5 z5
          have hsz6 := Keep.size k5
          replace hK0 := Keep.tr hK0 (Keep.ofNone k5); have hzhK0 := Keep.size hK0
          have hb5lt := hb5.lt
          refine OI_call { callee := (Callee.value (Operand.func 14)), args := #[(Operand.tmp 26)], argTypes := #[26] } 14 #[.slice (some ⟨b5, 0, none⟩) 1 1] (some 27) (by kernel_rfl) (by kernel_rfl) (by kernel_rfl) (new_ok (some ⟨b5, 0, none⟩) 1 [hv] _ (slt_blk (xs := [hv]) (f := intc) hb5 (fun _ => rfl) rfl).arg (by simp) (one_ok (by omega) (by omega))) ?_
          rintro _ w7 ⟨l9, F10, rfl, ho11, hk8, hge12⟩
          refine ⟨_, rfl, ?_⟩
          have hsz13 := Keep.size hk8
          replace hb5 := hb5.keep hk8 (fun f => f)
          have hb5lt := hb5.lt
          replace hK0 := Keep.tr hK0 (Keep.ofNone hk8); have hzhK0 := Keep.size hK0
          have own14 : ∀ q, F10 q → w5.heap.size ≤ q ∧ q ≠ b5 := fun q hq => by have h1 := hge12 q hq; omega
          have lt15 := Led.lt ho11
          have hl9lt : l9 < w7.heap.size := Led.lt ho11 _ (Led.at_ ho11)
          have hl9ge := hge12 _ (Led.at_ ho11)
          rw [new_mt hv] at ho11
          refine OI_static 8 [(0, .int .i64 hv), (1, .int .i64 n), (5, .pointer (some ⟨l9, 0, none⟩)), (6, .int .i64 0)] (by kernel_rfl) ?_
          refine OI_end rfl ?_
          refine X_then ?_
          refine V_seq ?_
          refine V_seq ?_
          refine V_region ?_
          refine OI_static 6 [(0, .int .i64 hv), (1, .int .i64 n), (5, .pointer (some ⟨l9, 0, none⟩)), (35, .bool false)] (by kernel_rfl) ?_
          refine OI_end rfl ?_
          refine X_then ?_
          refine V_false rfl ?_
          refine V_skip ?_
          refine X_then ?_
          refine V_seq ?_
          refine V_region ?_
          refine OI_static 2 [(0, .int .i64 hv), (1, .int .i64 n), (5, .pointer (some ⟨l9, 0, none⟩)), (36, .pointer (some ⟨l9, 0, none⟩)), (37, .int .i64 n)] (by kernel_rfl) ?_
          obtain ⟨e9, m9, he9, hX9, hor9⟩ := mt_mint (hv := hv) (n := n) (by omega) (by omega) (by omega) (by omega)
          refine OI_call { callee := (Callee.value (Operand.func 23)), args := #[(Operand.tmp 36), (Operand.const (Value.int IntKind.i64 3)), (Operand.tmp 37)], argTypes := #[22, 3, 3] } 23 #[.pointer (some ⟨l9, 0, none⟩), .int .i64 3, .int .i64 n] (some 38) (by kernel_rfl) (by kernel_rfl) (by kernel_rfl) (mint_spec F10 l9 (mt (Acc.mk hv 0) (Acc.mk 0 0)) ([] : List Ci) 3 n _ ho11) ?_
          rintro _ w18 ⟨rfl, ⟨F20, ho21, hfr22⟩, hk19⟩
          refine ⟨_, rfl, ?_⟩
          have hsz23 := Keep.size hk19
          replace hb5 := hb5.keep hk19 (fun hs => by have h1 := own14 _ hs; have h2 := lt15 _ hs; omega)
          have hb5lt := hb5.lt
          replace hK0 := Keep.fresh hK0 hk19 (by intro i hi hs; first | exact hs | (exfalso; have h1 := own14 i hs; have h2 := lt15 i hs; omega) | (have h1 := own14 i hs; have h2 := lt15 i hs; show _ ∨ _; omega)); have hzhK0 := Keep.size hK0
          have own25 : ∀ q, F20 q → w5.heap.size ≤ q ∧ q ≠ b5 := fun q hq => by rcases hfr22 q hq with h | h; (have h1 := own14 q h; have h2 := lt15 q h; omega); omega
          have lt24 := Led.lt ho21
          rw [hX9] at ho21
          refine OI_pick [(0, .int .i64 hv), (1, .int .i64 n), (5, .pointer (some ⟨l9, 0, none⟩)), (38, .int .i64 (mintE (mt (Acc.mk hv 0) (Acc.mk 0 0)) 3 n))] (by kernel_rfl) ?_
          refine OI_eq [(0, .int .i64 hv), (1, .int .i64 n), (5, .pointer (some ⟨l9, 0, none⟩)), (38, .int .i64 e9)] (by rw [he9]) ?_
          refine OI_static 4 [(0, .int .i64 hv), (1, .int .i64 n), (5, .pointer (some ⟨l9, 0, none⟩)), (7, .int .i64 e9)] (by kernel_rfl) ?_
          refine OI_end rfl ?_
          refine X_then ?_
          refine V_seq ?_
          refine V_seq ?_
          refine V_region ?_
          have hw26 : IntKind.i64.wrap (1073741824 - hv) = 1073741824 - hv := (wrap64_id (by omega) (by omega)).trans (by omega)
          refine OI_static 3 [(0, .int .i64 hv), (1, .int .i64 n), (5, .pointer (some ⟨l9, 0, none⟩)), (7, .int .i64 e9), (39, .int .i64 n), (41, .int .i64 (IntKind.i64.wrap (1073741824 - hv)))] (by kernel_rfl) ?_
          refine OI_eq [(0, .int .i64 hv), (1, .int .i64 n), (5, .pointer (some ⟨l9, 0, none⟩)), (7, .int .i64 e9), (39, .int .i64 n), (41, .int .i64 (1073741824 - hv))] (by rw [hw26]) ?_
          refine OI_static 4 [(0, .int .i64 hv), (1, .int .i64 n), (5, .pointer (some ⟨l9, 0, none⟩)), (7, .int .i64 e9), (42, .bool (decide (n > 1073741824 - hv)))] (by kernel_rfl) ?_
          refine OI_end rfl ?_
          refine X_then ?_
          refine V_if (n > 1073741824 - hv) (by kernel_rfl) (fun hc27 => ?_) (fun hc27 => ?_)
          · skip
            refine V_seq ?_
            refine V_region ?_
            refine OI_static 3 [(0, .int .i64 hv), (5, .pointer (some ⟨l9, 0, none⟩)), (45, .bool (decide (e9 = 10)))] (by kernel_rfl) ?_
            refine OI_eq [(0, .int .i64 hv), (5, .pointer (some ⟨l9, 0, none⟩)), (45, .bool true)] (by rw [decide_eq_true (by omega : e9 = 10)]) ?_
            refine OI_static 4 [(0, .int .i64 hv), (5, .pointer (some ⟨l9, 0, none⟩)), (45, .bool true), (46, .pointer (some ⟨l9, 0, none⟩))] (by kernel_rfl) ?_
            refine OI_call { callee := (Callee.value (Operand.func 19)), args := #[(Operand.tmp 46)], argTypes := #[22] } 19 #[.pointer (some ⟨l9, 0, none⟩)] (some 47) (by kernel_rfl) (by kernel_rfl) (by kernel_rfl) (issued_spec F20 l9 (mt (Acc.mk hv 0) (Acc.mk m9 0)) ([] : List Ci) _ ho21) ?_
            rintro _ w29 ⟨rfl, hk30⟩
            refine ⟨_, rfl, ?_⟩
            have hsz31 := Keep.size hk30
            replace hb5 := hb5.keep hk30 (fun f => f)
            have hb5lt := hb5.lt
            replace hK0 := Keep.tr hK0 (Keep.ofNone hk30); have hzhK0 := Keep.size hK0
            replace ho21 := Led.keep ho21 hk30 (fun _ _ f => f)
            refine OI_pick [(0, .int .i64 hv), (5, .pointer (some ⟨l9, 0, none⟩)), (45, .bool true), (47, .int .i64 (tot (mt (Acc.mk hv 0) (Acc.mk m9 0))))] (by kernel_rfl) ?_
            refine OI_eq [(0, .int .i64 hv), (5, .pointer (some ⟨l9, 0, none⟩)), (45, .bool true), (47, .int .i64 (hv + 0 + (m9 + 0)))] (by rw [tot_mt]) ?_
            refine OI_static 9 [(5, .pointer (some ⟨l9, 0, none⟩)), (51, .bool (decide (hv + 0 + (m9 + 0) = hv)))] (by kernel_rfl) ?_
            refine OI_eq [(5, .pointer (some ⟨l9, 0, none⟩)), (51, .bool true)] (by rw [decide_eq_true (by omega : hv + 0 + (m9 + 0) = hv)]) ?_
            refine OI_static 10 [(51, .bool true), (52, .pointer (some ⟨l9, 0, none⟩))] (by kernel_rfl) ?_
            refine OI_call { callee := (Callee.value (Operand.func 20)), args := #[(Operand.tmp 52), (Operand.const (Value.int IntKind.i64 3))], argTypes := #[22, 3] } 20 #[.pointer (some ⟨l9, 0, none⟩), .int .i64 3] (some 53) (by kernel_rfl) (by kernel_rfl) (by kernel_rfl) (free_spec F20 l9 (mt (Acc.mk hv 0) (Acc.mk m9 0)) ([] : List Ci) 3 _ ho21) ?_
            rintro _ w33 ⟨rfl, hk34⟩
            refine ⟨_, rfl, ?_⟩
            have hsz35 := Keep.size hk34
            replace hb5 := hb5.keep hk34 (fun f => f)
            have hb5lt := hb5.lt
            replace hK0 := Keep.tr hK0 (Keep.ofNone hk34); have hzhK0 := Keep.size hK0
            replace ho21 := Led.keep ho21 hk34 (fun _ _ f => f)
            refine OI_pick [(51, .bool true), (53, .int .i64 ((acct (mt (Acc.mk hv 0) (Acc.mk m9 0)) 3).free))] (by kernel_rfl) ?_
            refine OI_eq [(51, .bool true), (53, .int .i64 m9)] (by rfl) ?_
            refine OI_static 14 [(56, .bool (decide (m9 = 0)))] (by kernel_rfl) ?_
            refine OI_eq [(56, .bool true)] (by rw [decide_eq_true (by omega : m9 = 0)]) ?_
            refine OI_call { callee := (Callee.value (Operand.func 18)), args := #[], argTypes := #[] } 18 #[] (some 57) (by kernel_rfl) (by kernel_rfl) (by kernel_rfl) (known_spec _) ?_
            rintro _ w37 ⟨rfl, hk38⟩
            refine ⟨_, rfl, ?_⟩
            have hsz39 := Keep.size hk38
            replace hb5 := hb5.keep hk38 (fun f => f)
            have hb5lt := hb5.lt
            replace hK0 := Keep.tr hK0 (Keep.ofNone hk38); have hzhK0 := Keep.size hK0
            replace ho21 := Led.keep ho21 hk38 (fun _ _ f => f)
            refine OI_static 17 [(4, .bool true)] (by kernel_rfl) ?_
            refine OI_end rfl ?_
            refine X_then ?_
            refine V_ret ?_
            refine X_ret_then ?_
            exact X_return (.bool true) rfl ⟨rfl, hK0⟩
          · skip
            refine V_skip ?_
            refine X_then ?_
            refine V_seq ?_
            refine V_region ?_
            refine OI_static 1 [(0, .int .i64 hv), (1, .int .i64 n), (5, .pointer (some ⟨l9, 0, none⟩)), (7, .int .i64 e9), (59, .pointer (some ⟨l9, 0, none⟩))] (by kernel_rfl) ?_
            refine OI_call { callee := (Callee.value (Operand.func 19)), args := #[(Operand.tmp 59)], argTypes := #[22] } 19 #[.pointer (some ⟨l9, 0, none⟩)] (some 60) (by kernel_rfl) (by kernel_rfl) (by kernel_rfl) (issued_spec F20 l9 (mt (Acc.mk hv 0) (Acc.mk m9 0)) ([] : List Ci) _ ho21) ?_
            rintro _ w40 ⟨rfl, hk41⟩
            refine ⟨_, rfl, ?_⟩
            have hsz42 := Keep.size hk41
            replace hb5 := hb5.keep hk41 (fun f => f)
            have hb5lt := hb5.lt
            replace hK0 := Keep.tr hK0 (Keep.ofNone hk41); have hzhK0 := Keep.size hK0
            replace ho21 := Led.keep ho21 hk41 (fun _ _ f => f)
            refine OI_pick [(0, .int .i64 hv), (1, .int .i64 n), (5, .pointer (some ⟨l9, 0, none⟩)), (7, .int .i64 e9), (60, .int .i64 (tot (mt (Acc.mk hv 0) (Acc.mk m9 0))))] (by kernel_rfl) ?_
            refine OI_eq [(0, .int .i64 hv), (1, .int .i64 n), (5, .pointer (some ⟨l9, 0, none⟩)), (7, .int .i64 e9), (60, .int .i64 (hv + 0 + (m9 + 0)))] (by rw [tot_mt]) ?_
            refine OI_static 3 [(0, .int .i64 hv), (1, .int .i64 n), (5, .pointer (some ⟨l9, 0, none⟩)), (7, .int .i64 e9), (8, .int .i64 (hv + 0 + (m9 + 0)))] (by kernel_rfl) ?_
            refine OI_end rfl ?_
            refine X_then ?_
            refine V_seq ?_
            refine V_region ?_
            refine OI_static 2 [(0, .int .i64 hv), (1, .int .i64 n), (5, .pointer (some ⟨l9, 0, none⟩)), (7, .int .i64 e9), (8, .int .i64 (hv + 0 + (m9 + 0))), (61, .pointer (some ⟨l9, 0, none⟩)), (62, .int .i64 n)] (by kernel_rfl) ?_
            refine OI_call { callee := (Callee.value (Operand.func 24)), args := #[(Operand.tmp 61), (Operand.const (Value.int IntKind.i64 3)), (Operand.tmp 62)], argTypes := #[22, 3, 3] } 24 #[.pointer (some ⟨l9, 0, none⟩), .int .i64 3, .int .i64 n] (some 63) (by kernel_rfl) (by kernel_rfl) (by kernel_rfl) (burn_spec F20 l9 (mt (Acc.mk hv 0) (Acc.mk m9 0)) ([] : List Ci) 3 n _ ho21) ?_
            rintro _ w45 ⟨rfl, ⟨F47, ho48, hfr49⟩, hk46⟩
            refine ⟨_, rfl, ?_⟩
            have hsz50 := Keep.size hk46
            replace hb5 := hb5.keep hk46 (fun hs => by have h1 := own25 _ hs; have h2 := lt24 _ hs; omega)
            have hb5lt := hb5.lt
            replace hK0 := Keep.fresh hK0 hk46 (by intro i hi hs; first | exact hs | (exfalso; have h1 := own25 i hs; have h2 := lt24 i hs; omega) | (have h1 := own25 i hs; have h2 := lt24 i hs; show _ ∨ _; omega)); have hzhK0 := Keep.size hK0
            have own52 : ∀ q, F47 q → w5.heap.size ≤ q ∧ q ≠ b5 := fun q hq => by rcases hfr49 q hq with h | h; (have h1 := own25 q h; have h2 := lt24 q h; omega); omega
            have lt51 := Led.lt ho48
            rw [show burnX (mt (Acc.mk hv 0) (Acc.mk m9 0)) ([] : List Ci) 3 n = mt (Acc.mk hv 0) (Acc.mk (m9 - n) 0) from by unfold burnX; rw [if_pos (sp_mt (by omega) (by omega) (by omega))]; rfl] at ho48
            refine OI_pick [(0, .int .i64 hv), (1, .int .i64 n), (5, .pointer (some ⟨l9, 0, none⟩)), (7, .int .i64 e9), (8, .int .i64 (hv + 0 + (m9 + 0))), (63, .int .i64 (spendsE (mt (Acc.mk hv 0) (Acc.mk m9 0)) ([] : List Ci) 3 n))] (by kernel_rfl) ?_
            refine OI_eq [(0, .int .i64 hv), (1, .int .i64 n), (5, .pointer (some ⟨l9, 0, none⟩)), (7, .int .i64 e9), (8, .int .i64 (hv + 0 + (m9 + 0))), (63, .int .i64 0)] (by rw [sp_mt (by omega) (by omega) (by omega)]) ?_
            refine OI_static 4 [(0, .int .i64 hv), (1, .int .i64 n), (5, .pointer (some ⟨l9, 0, none⟩)), (7, .int .i64 e9), (8, .int .i64 (hv + 0 + (m9 + 0))), (9, .int .i64 0)] (by kernel_rfl) ?_
            refine OI_end rfl ?_
            refine X_then ?_
            refine V_seq ?_
            refine V_region ?_
            refine OI_static 3 [(0, .int .i64 hv), (1, .int .i64 n), (5, .pointer (some ⟨l9, 0, none⟩)), (8, .int .i64 (hv + 0 + (m9 + 0))), (9, .int .i64 0), (66, .bool (decide (e9 = 0)))] (by kernel_rfl) ?_
            refine OI_eq [(0, .int .i64 hv), (1, .int .i64 n), (5, .pointer (some ⟨l9, 0, none⟩)), (8, .int .i64 (hv + 0 + (m9 + 0))), (9, .int .i64 0), (66, .bool true)] (by rw [decide_eq_true (by omega : e9 = 0)]) ?_
            have hw54 : IntKind.i64.wrap (hv + n) = hv + n := (wrap64_id (by omega) (by omega)).trans (by omega)
            refine OI_static 7 [(0, .int .i64 hv), (5, .pointer (some ⟨l9, 0, none⟩)), (9, .int .i64 0), (66, .bool true), (67, .int .i64 (hv + 0 + (m9 + 0))), (70, .int .i64 (IntKind.i64.wrap (hv + n)))] (by kernel_rfl) ?_
            refine OI_eq [(0, .int .i64 hv), (5, .pointer (some ⟨l9, 0, none⟩)), (9, .int .i64 0), (66, .bool true), (67, .int .i64 (hv + 0 + (m9 + 0))), (70, .int .i64 (hv + n))] (by rw [hw54]) ?_
            refine OI_static 10 [(0, .int .i64 hv), (5, .pointer (some ⟨l9, 0, none⟩)), (9, .int .i64 0), (73, .bool (decide (hv + 0 + (m9 + 0) = hv + n)))] (by kernel_rfl) ?_
            refine OI_eq [(0, .int .i64 hv), (5, .pointer (some ⟨l9, 0, none⟩)), (9, .int .i64 0), (73, .bool true)] (by rw [decide_eq_true (by omega : hv + 0 + (m9 + 0) = hv + n)]) ?_
            refine OI_static 15 [(0, .int .i64 hv), (5, .pointer (some ⟨l9, 0, none⟩)), (77, .bool true), (78, .pointer (some ⟨l9, 0, none⟩))] (by kernel_rfl) ?_
            refine OI_call { callee := (Callee.value (Operand.func 19)), args := #[(Operand.tmp 78)], argTypes := #[22] } 19 #[.pointer (some ⟨l9, 0, none⟩)] (some 79) (by kernel_rfl) (by kernel_rfl) (by kernel_rfl) (issued_spec F47 l9 (mt (Acc.mk hv 0) (Acc.mk (m9 - n) 0)) ([] : List Ci) _ ho48) ?_
            rintro _ w56 ⟨rfl, hk57⟩
            refine ⟨_, rfl, ?_⟩
            have hsz58 := Keep.size hk57
            replace hb5 := hb5.keep hk57 (fun f => f)
            have hb5lt := hb5.lt
            replace hK0 := Keep.tr hK0 (Keep.ofNone hk57); have hzhK0 := Keep.size hK0
            replace ho48 := Led.keep ho48 hk57 (fun _ _ f => f)
            refine OI_pick [(0, .int .i64 hv), (5, .pointer (some ⟨l9, 0, none⟩)), (77, .bool true), (79, .int .i64 (tot (mt (Acc.mk hv 0) (Acc.mk (m9 - n) 0))))] (by kernel_rfl) ?_
            refine OI_eq [(0, .int .i64 hv), (5, .pointer (some ⟨l9, 0, none⟩)), (77, .bool true), (79, .int .i64 (hv + 0 + ((m9 - n) + 0)))] (by rw [tot_mt]) ?_
            refine OI_static 20 [(5, .pointer (some ⟨l9, 0, none⟩)), (83, .bool (decide (hv + 0 + ((m9 - n) + 0) = hv)))] (by kernel_rfl) ?_
            refine OI_eq [(5, .pointer (some ⟨l9, 0, none⟩)), (83, .bool true)] (by rw [decide_eq_true (by omega : hv + 0 + ((m9 - n) + 0) = hv)]) ?_
            refine OI_static 21 [(83, .bool true), (84, .pointer (some ⟨l9, 0, none⟩))] (by kernel_rfl) ?_
            refine OI_call { callee := (Callee.value (Operand.func 24)), args := #[(Operand.tmp 84), (Operand.const (Value.int IntKind.i64 3)), (Operand.const (Value.int IntKind.i64 1))], argTypes := #[22, 3, 3] } 24 #[.pointer (some ⟨l9, 0, none⟩), .int .i64 3, .int .i64 1] (some 85) (by kernel_rfl) (by kernel_rfl) (by kernel_rfl) (burn_spec F47 l9 (mt (Acc.mk hv 0) (Acc.mk (m9 - n) 0)) ([] : List Ci) 3 1 _ ho48) ?_
            rintro _ w62 ⟨rfl, ⟨F64, ho65, hfr66⟩, hk63⟩
            refine ⟨_, rfl, ?_⟩
            have hsz67 := Keep.size hk63
            replace hb5 := hb5.keep hk63 (fun hs => by have h1 := own52 _ hs; have h2 := lt51 _ hs; omega)
            have hb5lt := hb5.lt
            replace hK0 := Keep.fresh hK0 hk63 (by intro i hi hs; first | exact hs | (exfalso; have h1 := own52 i hs; have h2 := lt51 i hs; omega) | (have h1 := own52 i hs; have h2 := lt51 i hs; show _ ∨ _; omega)); have hzhK0 := Keep.size hK0
            have own69 : ∀ q, F64 q → w5.heap.size ≤ q ∧ q ≠ b5 := fun q hq => by rcases hfr66 q hq with h | h; (have h1 := own52 q h; have h2 := lt51 q h; omega); omega
            have lt68 := Led.lt ho65
            refine OI_pick [(83, .bool true), (85, .int .i64 (spendsE (mt (Acc.mk hv 0) (Acc.mk (m9 - n) 0)) ([] : List Ci) 3 1))] (by kernel_rfl) ?_
            refine OI_eq [(83, .bool true), (85, .int .i64 6)] (by rw [sp_mt1 (by omega)]) ?_
            refine OI_static 25 [(88, .bool true)] (by kernel_rfl) ?_
            refine OI_call { callee := (Callee.value (Operand.func 18)), args := #[], argTypes := #[] } 18 #[] (some 89) (by kernel_rfl) (by kernel_rfl) (by kernel_rfl) (known_spec _) ?_
            rintro _ w70 ⟨rfl, hk71⟩
            refine ⟨_, rfl, ?_⟩
            have hsz72 := Keep.size hk71
            replace hb5 := hb5.keep hk71 (fun f => f)
            have hb5lt := hb5.lt
            replace hK0 := Keep.tr hK0 (Keep.ofNone hk71); have hzhK0 := Keep.size hK0
            replace ho65 := Led.keep ho65 hk71 (fun _ _ f => f)
            refine OI_static 28 [(4, .bool true)] (by kernel_rfl) ?_
            refine OI_end rfl ?_
            refine X_then ?_
            refine V_ret ?_
            exact X_return (.bool true) rfl ⟨rfl, hK0⟩

/-! ### What is moved to oneself -/
theorem sp_zero {xs : List Acc} {cs : List Ci} {a : Int} (h1 : isA a = true) (h2 : 0 ≤ (acct xs a).free) : spendsE xs cs a 0 = 0 := by
  unfold spendsE
  rw [if_neg (by rw [h1]; rintro (h | h); cases h; omega), if_neg (by omega), if_neg (by omega)]
theorem self_tr (z : Acc) (cs : List Ci) {free : Int} (n : Int) (h1 : 0 ≤ free) (h2 : free ≤ 1073741824) : ∃ f, transE (two z (Acc.mk free 0)) cs 1 1 n = f ∧ transX (two z (Acc.mk free 0)) cs 1 1 n = two z (Acc.mk free 0) ∧ (((n < 0 ∨ n > 1073741824) ∧ f = 1) ∨ (0 ≤ n ∧ n ≤ 1073741824 ∧ n > free ∧ f = 6) ∨ (0 ≤ n ∧ n ≤ free ∧ f = 0)) := by
  refine ⟨_, rfl, ?_, ?_⟩
  · unfold transX
    split
    · unfold addF subF; simp only [acct_two1, set_two1]; simp
    · rfl
  · unfold transE spendsE
    rw [if_neg (by rw [isA1]; decide)]
    simp only [isA1, acct_two1]
    by_cases hn : 0 ≤ n ∧ n ≤ 1073741824
    · by_cases hf : n > free
      · right; left; refine ⟨hn.1, hn.2, hf, ?_⟩; simp [hn, hf]
      · right; right; refine ⟨hn.1, by omega, ?_⟩
        simp only [hn, hf]
        by_cases hl : n > 0 ∧ free - n < lockedL cs 1
        · simp [hl]
        · simp [hl]
    · left; refine ⟨by omega, ?_⟩; simp [hn]
theorem self_tr2 (z : Acc) (cs : List Ci) {free : Int} (h1 : 0 ≤ free) : transE (two z (Acc.mk free 0)) cs 1 2 0 = 0 ∧ transX (two z (Acc.mk free 0)) cs 1 2 0 = two z (Acc.mk free 0) ∧ spendsE (two z (Acc.mk free 0)) cs 1 0 = 0 ∧ resX (two z (Acc.mk free 0)) cs 1 0 = two z (Acc.mk free 0) := by
  have hs : spendsE (two z (Acc.mk free 0)) cs 1 0 = 0 := sp_zero isA1 (by rw [acct_two1]; exact h1)
  have e1 : subF (two z (Acc.mk free 0)) 1 0 = two z (Acc.mk free 0) := by unfold subF; rw [acct_two1, set_two1]; simp
  refine ⟨?_, ?_, hs, ?_⟩
  · unfold transE; rw [if_neg (by rw [isA2]; decide), hs]; rfl
  · unfold transX; rw [if_pos ⟨isA2, hs⟩, e1]; unfold addF; rw [acct_two2]; exact set_two2 _ _
  · unfold resX; rw [if_pos hs, e1]; unfold addH; rw [acct_two1, set_two1]; simp

theorem walk_LedgerSelf (free lock n : Int) (w : World) : Calls Try.prog 6 #[.int .i64 free, .int .i64 lock, .int .i64 n] w fun e w' => e = .returned (.bool true) ∧ Keep none_ w w' := by
  have hK0 : Keep none_ w w := Keep.refl _ _
  have hzhK0 := Keep.size hK0
  refine enterV Try.func6 rfl [.int .i64 free, .int .i64 lock, .int .i64 n] 90 rfl rfl rfl ?_
  refine V_pick [(0, .int .i64 free), (1, .int .i64 lock), (2, .int .i64 n)] rfl ?_
  refine V_seq ?_
  refine V_region ?_
  refine OI_static 1 [(0, .int .i64 free), (1, .int .i64 lock), (2, .int .i64 n)] (by kernel_rfl) ?_
  refine OI_end rfl ?_
  refine X_then ?_
  refine V_seq ?_
  refine V_seq ?_
  refine V_region ?_
  refine OI_static 3 [(0, .int .i64 free), (1, .int .i64 lock), (2, .int .i64 n), (15, .bool (decide (free < 0)))] (by kernel_rfl) ?_
  by_cases hg1 : free < 0
  · skip
    refine OI_eq [(0, .int .i64 free), (1, .int .i64 lock), (2, .int .i64 n), (15, .bool true)] (by first | simp [hg1] | rfl) ?_
    refine OI_static 14 [(0, .int .i64 free), (1, .int .i64 lock), (2, .int .i64 n), (26, .bool true)] (by kernel_rfl) ?_
    refine OI_end rfl ?_
    refine X_then ?_
    refine V_true rfl ?_
    refine V_seq ?_
    refine V_region ?_
    refine OI_static 1 [(6, .bool true)] (by kernel_rfl) ?_
    refine OI_end rfl ?_
    refine X_then ?_
    refine V_ret ?_
    refine X_ret_then ?_
    exact X_return (.bool true) rfl ⟨rfl, hK0⟩
  · skip
    refine OI_eq [(0, .int .i64 free), (1, .int .i64 lock), (2, .int .i64 n), (15, .bool false)] (by first | simp [hg1] | rfl) ?_
    refine OI_static 7 [(0, .int .i64 free), (1, .int .i64 lock), (2, .int .i64 n), (19, .bool (decide (free > 1073741824)))] (by kernel_rfl) ?_
    by_cases hg2 : free > 1073741824
    · skip
      refine OI_eq [(0, .int .i64 free), (1, .int .i64 lock), (2, .int .i64 n), (19, .bool true)] (by first | simp [hg2] | rfl) ?_
      refine OI_static 14 [(0, .int .i64 free), (1, .int .i64 lock), (2, .int .i64 n), (26, .bool true)] (by kernel_rfl) ?_
      refine OI_end rfl ?_
      refine X_then ?_
      refine V_true rfl ?_
      refine V_seq ?_
      refine V_region ?_
      refine OI_static 1 [(6, .bool true)] (by kernel_rfl) ?_
      refine OI_end rfl ?_
      refine X_then ?_
      refine V_ret ?_
      refine X_ret_then ?_
      exact X_return (.bool true) rfl ⟨rfl, hK0⟩
    · skip
      refine OI_eq [(0, .int .i64 free), (1, .int .i64 lock), (2, .int .i64 n), (19, .bool false)] (by first | simp [hg2] | rfl) ?_
      refine OI_static 11 [(0, .int .i64 free), (1, .int .i64 lock), (2, .int .i64 n), (23, .bool (decide (lock < 0)))] (by kernel_rfl) ?_
      by_cases hg3 : lock < 0
      · skip
        refine OI_eq [(0, .int .i64 free), (1, .int .i64 lock), (2, .int .i64 n), (23, .bool true)] (by first | simp [hg3] | rfl) ?_
        refine OI_static 14 [(0, .int .i64 free), (1, .int .i64 lock), (2, .int .i64 n), (26, .bool true)] (by kernel_rfl) ?_
        refine OI_end rfl ?_
        refine X_then ?_
        refine V_true rfl ?_
        refine V_seq ?_
        refine V_region ?_
        refine OI_static 1 [(6, .bool true)] (by kernel_rfl) ?_
        refine OI_end rfl ?_
        refine X_then ?_
        refine V_ret ?_
        refine X_ret_then ?_
        exact X_return (.bool true) rfl ⟨rfl, hK0⟩
      · skip
        refine OI_eq [(0, .int .i64 free), (1, .int .i64 lock), (2, .int .i64 n), (23, .bool false)] (by first | simp [hg3] | rfl) ?_
        refine OI_static 14 [(0, .int .i64 free), (1, .int .i64 lock), (2, .int .i64 n), (26, .bool (decide (lock > 1073741824)))] (by kernel_rfl) ?_
        refine OI_end rfl ?_
        refine X_then ?_
        refine V_if (lock > 1073741824) (by kernel_rfl) (fun hc4 => ?_) (fun hc4 => ?_)
        · skip
          refine V_seq ?_
          refine V_region ?_
          refine OI_static 1 [(6, .bool true)] (by kernel_rfl) ?_
          refine OI_end rfl ?_
          refine X_then ?_
          refine V_ret ?_
          refine X_ret_then ?_
          exact X_return (.bool true) rfl ⟨rfl, hK0⟩
        · skip
          refine V_skip ?_
          refine X_then ?_
          refine V_seq ?_
          refine V_region ?_
          refine OI_static 1 [(0, .int .i64 free), (1, .int .i64 lock), (2, .int .i64 n), (28, .int .i64 free)] (by kernel_rfl) ?_
          refine OI_slit (E := 3) (zv := .int .i64 0) (sz := 1) (by_ := 8) 26 2 #[(0, (Operand.const (Value.int IntKind.i64 0))), (1, (Operand.tmp 28))] [.int .i64 0, .int .i64 free] [.int .i64 0, .int .i64 free] (some 29) (by kernel_rfl) (by kernel_rfl) (by kernel_rfl) (by omega) rfl (by omega) (by intro v hv; simp only [List.mem_cons, List.not_mem_nil, or_false] at hv; rcases hv with rfl | rfl <;> rfl) (by kernel_rfl) rfl ?_
          intro b5 w5 e5 hb5 k5 z5
          have hsz6 := Keep.size k5
          replace hK0 := Keep.tr hK0 (Keep.ofNone k5); have hzhK0 := Keep.size hK0
          have hb5lt := hb5.lt
          refine OI_call { callee := (Callee.value (Operand.func 14)), args := #[(Operand.tmp 29)], argTypes := #[26] } 14 #[.slice (some ⟨b5, 0, none⟩) 2 2] (some 30) (by kernel_rfl) (by kernel_rfl) (by kernel_rfl) (new_ok (some ⟨b5, 0, none⟩) 2 [0, free] _ (slt_blk (xs := [0, free]) (f := intc) hb5 (fun _ => rfl) rfl).arg (by simp) (two_ok (by omega) (by omega) (by omega))) ?_
          rintro _ w7 ⟨l9, F10, rfl, ho11, hk8, hge12⟩
          refine ⟨_, rfl, ?_⟩
          have hsz13 := Keep.size hk8
          replace hb5 := hb5.keep hk8 (fun f => f)
          have hb5lt := hb5.lt
          replace hK0 := Keep.tr hK0 (Keep.ofNone hk8); have hzhK0 := Keep.size hK0
          have own14 : ∀ q, F10 q → w5.heap.size ≤ q ∧ q ≠ b5 := fun q hq => by have h1 := hge12 q hq; omega
          have lt15 := Led.lt ho11
          have hl9lt : l9 < w7.heap.size := Led.lt ho11 _ (Led.at_ ho11)
          have hl9ge := hge12 _ (Led.at_ ho11)
          rw [new_two] at ho11
          refine OI_static 8 [(0, .int .i64 free), (1, .int .i64 lock), (2, .int .i64 n), (7, .pointer (some ⟨l9, 0, none⟩)), (8, .int .i64 0)] (by kernel_rfl) ?_
          refine OI_end rfl ?_
          refine X_then ?_
          refine V_seq ?_
          refine V_seq ?_
          refine V_region ?_
          refine OI_static 6 [(0, .int .i64 free), (1, .int .i64 lock), (2, .int .i64 n), (7, .pointer (some ⟨l9, 0, none⟩)), (38, .bool false)] (by kernel_rfl) ?_
          refine OI_end rfl ?_
          refine X_then ?_
          refine V_false rfl ?_
          refine V_skip ?_
          refine X_then ?_
          refine V_seq ?_
          refine V_region ?_
          refine OI_static 2 [(0, .int .i64 free), (2, .int .i64 n), (7, .pointer (some ⟨l9, 0, none⟩)), (39, .pointer (some ⟨l9, 0, none⟩)), (40, .int .i64 lock)] (by kernel_rfl) ?_
          obtain ⟨f9, hf9, hX9, hor9⟩ := self_tr (Acc.mk 0 0) (lockC ([] : List Ci) 1 0 lock) (free := free) n (by omega) (by omega)
          obtain ⟨hT1, hT2, hT3, hT4⟩ := self_tr2 (Acc.mk 0 0) (lockC ([] : List Ci) 1 0 lock) (free := free) (by omega)
          refine OI_call { callee := (Callee.value (Operand.func 15)), args := #[(Operand.tmp 39), (Operand.const (Value.int IntKind.i64 1)), (Operand.const (Value.int IntKind.i64 0)), (Operand.tmp 40)], argTypes := #[22, 3, 3, 3] } 15 #[.pointer (some ⟨l9, 0, none⟩), .int .i64 1, .int .i64 0, .int .i64 lock] (some 41) (by kernel_rfl) (by kernel_rfl) (by kernel_rfl) (lock_spec F10 l9 (two (Acc.mk 0 0) (Acc.mk free 0)) ([] : List Ci) 1 0 lock _ ho11 (by simp)) ?_
          rintro _ w18 ⟨rfl, ⟨F20, ho21, hfr22⟩, hk19⟩
          refine ⟨_, rfl, ?_⟩
          have hsz23 := Keep.size hk19
          replace hb5 := hb5.keep hk19 (fun hs => by have h1 := own14 _ hs; have h2 := lt15 _ hs; omega)
          have hb5lt := hb5.lt
          replace hK0 := Keep.fresh hK0 hk19 (by intro i hi hs; first | exact hs | (exfalso; have h1 := own14 i hs; have h2 := lt15 i hs; omega) | (have h1 := own14 i hs; have h2 := lt15 i hs; show _ ∨ _; omega)); have hzhK0 := Keep.size hK0
          have own25 : ∀ q, F20 q → w5.heap.size ≤ q ∧ q ≠ b5 := fun q hq => by rcases hfr22 q hq with h | h; (have h1 := own14 q h; have h2 := lt15 q h; omega); omega
          have lt24 := Led.lt ho21
          refine OI_end rfl ?_
          refine X_then ?_
          refine V_seq ?_
          refine V_region ?_
          refine OI_static 2 [(0, .int .i64 free), (2, .int .i64 n), (7, .pointer (some ⟨l9, 0, none⟩)), (42, .pointer (some ⟨l9, 0, none⟩)), (43, .int .i64 n)] (by kernel_rfl) ?_
          refine OI_call { callee := (Callee.value (Operand.func 17)), args := #[(Operand.tmp 42), (Operand.const (Value.int IntKind.i64 1)), (Operand.const (Value.int IntKind.i64 1)), (Operand.tmp 43)], argTypes := #[22, 3, 3, 3] } 17 #[.pointer (some ⟨l9, 0, none⟩), .int .i64 1, .int .i64 1, .int .i64 n] (some 44) (by kernel_rfl) (by kernel_rfl) (by kernel_rfl) (transfer_spec F20 l9 (two (Acc.mk 0 0) (Acc.mk free 0)) (lockC ([] : List Ci) 1 0 lock) 1 1 n _ ho21) ?_
          rintro _ w28 ⟨rfl, ⟨F30, ho31, hfr32⟩, hk29⟩
          refine ⟨_, rfl, ?_⟩
          have hsz33 := Keep.size hk29
          replace hb5 := hb5.keep hk29 (fun hs => by have h1 := own25 _ hs; have h2 := lt24 _ hs; omega)
          have hb5lt := hb5.lt
          replace hK0 := Keep.fresh hK0 hk29 (by intro i hi hs; first | exact hs | (exfalso; have h1 := own25 i hs; have h2 := lt24 i hs; omega) | (have h1 := own25 i hs; have h2 := lt24 i hs; show _ ∨ _; omega)); have hzhK0 := Keep.size hK0
          have own35 : ∀ q, F30 q → w5.heap.size ≤ q ∧ q ≠ b5 := fun q hq => by rcases hfr32 q hq with h | h; (have h1 := own25 q h; have h2 := lt24 q h; omega); omega
          have lt34 := Led.lt ho31
          rw [hX9] at ho31
          refine OI_pick [(0, .int .i64 free), (2, .int .i64 n), (7, .pointer (some ⟨l9, 0, none⟩)), (44, .int .i64 (transE (two (Acc.mk 0 0) (Acc.mk free 0)) (lockC ([] : List Ci) 1 0 lock) 1 1 n))] (by kernel_rfl) ?_
          refine OI_eq [(0, .int .i64 free), (2, .int .i64 n), (7, .pointer (some ⟨l9, 0, none⟩)), (44, .int .i64 f9)] (by rw [hf9]) ?_
          refine OI_static 4 [(0, .int .i64 free), (2, .int .i64 n), (7, .pointer (some ⟨l9, 0, none⟩)), (9, .int .i64 f9)] (by kernel_rfl) ?_
          refine OI_end rfl ?_
          refine X_then ?_
          refine V_seq ?_
          refine V_region ?_
          refine OI_static 1 [(0, .int .i64 free), (2, .int .i64 n), (7, .pointer (some ⟨l9, 0, none⟩)), (9, .int .i64 f9), (45, .pointer (some ⟨l9, 0, none⟩))] (by kernel_rfl) ?_
          refine OI_call { callee := (Callee.value (Operand.func 17)), args := #[(Operand.tmp 45), (Operand.const (Value.int IntKind.i64 1)), (Operand.const (Value.int IntKind.i64 2)), (Operand.const (Value.int IntKind.i64 0))], argTypes := #[22, 3, 3, 3] } 17 #[.pointer (some ⟨l9, 0, none⟩), .int .i64 1, .int .i64 2, .int .i64 0] (some 46) (by kernel_rfl) (by kernel_rfl) (by kernel_rfl) (transfer_spec F30 l9 (two (Acc.mk 0 0) (Acc.mk free 0)) (lockC ([] : List Ci) 1 0 lock) 1 2 0 _ ho31) ?_
          rintro _ w38 ⟨rfl, ⟨F40, ho41, hfr42⟩, hk39⟩
          refine ⟨_, rfl, ?_⟩
          have hsz43 := Keep.size hk39
          replace hb5 := hb5.keep hk39 (fun hs => by have h1 := own35 _ hs; have h2 := lt34 _ hs; omega)
          have hb5lt := hb5.lt
          replace hK0 := Keep.fresh hK0 hk39 (by intro i hi hs; first | exact hs | (exfalso; have h1 := own35 i hs; have h2 := lt34 i hs; omega) | (have h1 := own35 i hs; have h2 := lt34 i hs; show _ ∨ _; omega)); have hzhK0 := Keep.size hK0
          have own45 : ∀ q, F40 q → w5.heap.size ≤ q ∧ q ≠ b5 := fun q hq => by rcases hfr42 q hq with h | h; (have h1 := own35 q h; have h2 := lt34 q h; omega); omega
          have lt44 := Led.lt ho41
          rw [hT2] at ho41
          refine OI_pick [(0, .int .i64 free), (2, .int .i64 n), (7, .pointer (some ⟨l9, 0, none⟩)), (9, .int .i64 f9), (46, .int .i64 (transE (two (Acc.mk 0 0) (Acc.mk free 0)) (lockC ([] : List Ci) 1 0 lock) 1 2 0))] (by kernel_rfl) ?_
          refine OI_eq [(0, .int .i64 free), (2, .int .i64 n), (7, .pointer (some ⟨l9, 0, none⟩)), (9, .int .i64 f9), (46, .int .i64 0)] (by rw [hT1]) ?_
          refine OI_static 3 [(0, .int .i64 free), (2, .int .i64 n), (7, .pointer (some ⟨l9, 0, none⟩)), (9, .int .i64 f9), (10, .int .i64 0)] (by kernel_rfl) ?_
          refine OI_end rfl ?_
          refine X_then ?_
          refine V_seq ?_
          refine V_region ?_
          refine OI_static 1 [(0, .int .i64 free), (2, .int .i64 n), (7, .pointer (some ⟨l9, 0, none⟩)), (9, .int .i64 f9), (10, .int .i64 0), (47, .pointer (some ⟨l9, 0, none⟩))] (by kernel_rfl) ?_
          refine OI_call { callee := (Callee.value (Operand.func 21)), args := #[(Operand.tmp 47), (Operand.const (Value.int IntKind.i64 1)), (Operand.const (Value.int IntKind.i64 0))], argTypes := #[22, 3, 3] } 21 #[.pointer (some ⟨l9, 0, none⟩), .int .i64 1, .int .i64 0] (some 48) (by kernel_rfl) (by kernel_rfl) (by kernel_rfl) (reserve_spec F40 l9 (two (Acc.mk 0 0) (Acc.mk free 0)) (lockC ([] : List Ci) 1 0 lock) 1 0 _ ho41) ?_
          rintro _ w48 ⟨rfl, ⟨F50, ho51, hfr52⟩, hk49⟩
          refine ⟨_, rfl, ?_⟩
          have hsz53 := Keep.size hk49
          replace hb5 := hb5.keep hk49 (fun hs => by have h1 := own45 _ hs; have h2 := lt44 _ hs; omega)
          have hb5lt := hb5.lt
          replace hK0 := Keep.fresh hK0 hk49 (by intro i hi hs; first | exact hs | (exfalso; have h1 := own45 i hs; have h2 := lt44 i hs; omega) | (have h1 := own45 i hs; have h2 := lt44 i hs; show _ ∨ _; omega)); have hzhK0 := Keep.size hK0
          have own55 : ∀ q, F50 q → w5.heap.size ≤ q ∧ q ≠ b5 := fun q hq => by rcases hfr52 q hq with h | h; (have h1 := own45 q h; have h2 := lt44 q h; omega); omega
          have lt54 := Led.lt ho51
          rw [hT4] at ho51
          refine OI_pick [(0, .int .i64 free), (2, .int .i64 n), (7, .pointer (some ⟨l9, 0, none⟩)), (9, .int .i64 f9), (10, .int .i64 0), (48, .int .i64 (spendsE (two (Acc.mk 0 0) (Acc.mk free 0)) (lockC ([] : List Ci) 1 0 lock) 1 0))] (by kernel_rfl) ?_
          refine OI_eq [(0, .int .i64 free), (2, .int .i64 n), (7, .pointer (some ⟨l9, 0, none⟩)), (9, .int .i64 f9), (10, .int .i64 0), (48, .int .i64 0)] (by rw [hT3]) ?_
          refine OI_static 3 [(0, .int .i64 free), (2, .int .i64 n), (7, .pointer (some ⟨l9, 0, none⟩)), (9, .int .i64 f9), (10, .int .i64 0), (11, .int .i64 0)] (by kernel_rfl) ?_
          refine OI_end rfl ?_
          refine X_then ?_
          refine V_seq ?_
          refine V_region ?_
          refine OI_static 1 [(0, .int .i64 free), (2, .int .i64 n), (7, .pointer (some ⟨l9, 0, none⟩)), (9, .int .i64 f9), (10, .int .i64 0), (11, .int .i64 0), (12, .int .i64 0)] (by kernel_rfl) ?_
          refine OI_end rfl ?_
          refine X_then ?_
          refine V_seq ?_
          refine V_block ?_
          refine V_seq ?_
          refine V_region ?_
          refine OI_static 3 [(0, .int .i64 free), (2, .int .i64 n), (7, .pointer (some ⟨l9, 0, none⟩)), (9, .int .i64 f9), (10, .int .i64 0), (11, .int .i64 0), (12, .int .i64 0), (52, .bool (decide (n < 0)))] (by kernel_rfl) ?_
          by_cases hg56 : n < 0
          · skip
            refine OI_eq [(0, .int .i64 free), (2, .int .i64 n), (7, .pointer (some ⟨l9, 0, none⟩)), (9, .int .i64 f9), (10, .int .i64 0), (11, .int .i64 0), (12, .int .i64 0), (52, .bool true)] (by first | simp [hg56] | rfl) ?_
            refine OI_static 7 [(0, .int .i64 free), (2, .int .i64 n), (7, .pointer (some ⟨l9, 0, none⟩)), (9, .int .i64 f9), (10, .int .i64 0), (11, .int .i64 0), (12, .int .i64 0), (49, .bool true)] (by kernel_rfl) ?_
            refine OI_end rfl ?_
            refine X_then ?_
            refine V_true rfl ?_
            refine V_region ?_
            refine OI_static 1 [(0, .int .i64 free), (7, .pointer (some ⟨l9, 0, none⟩)), (9, .int .i64 f9), (10, .int .i64 0), (11, .int .i64 0), (12, .int .i64 1)] (by kernel_rfl) ?_
            refine OI_end rfl ?_
            refine X_block ?_
            refine X_then ?_
            refine V_seq ?_
            refine V_region ?_
            refine OI_static 4 [(0, .int .i64 free), (7, .pointer (some ⟨l9, 0, none⟩)), (10, .int .i64 0), (11, .int .i64 0), (63, .bool (decide (f9 = 1)))] (by kernel_rfl) ?_
            refine OI_eq [(0, .int .i64 free), (7, .pointer (some ⟨l9, 0, none⟩)), (10, .int .i64 0), (11, .int .i64 0), (63, .bool true)] (by rw [decide_eq_true (by omega : f9 = 1)]) ?_
            refine OI_static 13 [(0, .int .i64 free), (7, .pointer (some ⟨l9, 0, none⟩)), (71, .bool true), (72, .pointer (some ⟨l9, 0, none⟩))] (by kernel_rfl) ?_
            refine OI_call { callee := (Callee.value (Operand.func 20)), args := #[(Operand.tmp 72), (Operand.const (Value.int IntKind.i64 1))], argTypes := #[22, 3] } 20 #[.pointer (some ⟨l9, 0, none⟩), .int .i64 1] (some 73) (by kernel_rfl) (by kernel_rfl) (by kernel_rfl) (free_spec F50 l9 (two (Acc.mk 0 0) (Acc.mk free 0)) (lockC ([] : List Ci) 1 0 lock) 1 _ ho51) ?_
            rintro _ w58 ⟨rfl, hk59⟩
            refine ⟨_, rfl, ?_⟩
            have hsz60 := Keep.size hk59
            replace hb5 := hb5.keep hk59 (fun f => f)
            have hb5lt := hb5.lt
            replace hK0 := Keep.tr hK0 (Keep.ofNone hk59); have hzhK0 := Keep.size hK0
            replace ho51 := Led.keep ho51 hk59 (fun _ _ f => f)
            refine OI_pick [(0, .int .i64 free), (7, .pointer (some ⟨l9, 0, none⟩)), (71, .bool true), (73, .int .i64 ((acct (two (Acc.mk 0 0) (Acc.mk free 0)) 1).free))] (by kernel_rfl) ?_
            refine OI_eq [(0, .int .i64 free), (7, .pointer (some ⟨l9, 0, none⟩)), (71, .bool true), (73, .int .i64 free)] (by rfl) ?_
            refine OI_static 18 [(7, .pointer (some ⟨l9, 0, none⟩)), (77, .bool (decide (free = free)))] (by kernel_rfl) ?_
            refine OI_eq [(7, .pointer (some ⟨l9, 0, none⟩)), (77, .bool true)] (by rw [decide_eq_true (by omega : free = free)]) ?_
            refine OI_static 19 [(7, .pointer (some ⟨l9, 0, none⟩)), (77, .bool true), (78, .pointer (some ⟨l9, 0, none⟩))] (by kernel_rfl) ?_
            refine OI_call { callee := (Callee.value (Operand.func 20)), args := #[(Operand.tmp 78), (Operand.const (Value.int IntKind.i64 2))], argTypes := #[22, 3] } 20 #[.pointer (some ⟨l9, 0, none⟩), .int .i64 2] (some 79) (by kernel_rfl) (by kernel_rfl) (by kernel_rfl) (free_spec F50 l9 (two (Acc.mk 0 0) (Acc.mk free 0)) (lockC ([] : List Ci) 1 0 lock) 2 _ ho51) ?_
            rintro _ w62 ⟨rfl, hk63⟩
            refine ⟨_, rfl, ?_⟩
            have hsz64 := Keep.size hk63
            replace hb5 := hb5.keep hk63 (fun f => f)
            have hb5lt := hb5.lt
            replace hK0 := Keep.tr hK0 (Keep.ofNone hk63); have hzhK0 := Keep.size hK0
            replace ho51 := Led.keep ho51 hk63 (fun _ _ f => f)
            refine OI_pick [(7, .pointer (some ⟨l9, 0, none⟩)), (77, .bool true), (79, .int .i64 ((acct (two (Acc.mk 0 0) (Acc.mk free 0)) 2).free))] (by kernel_rfl) ?_
            refine OI_eq [(7, .pointer (some ⟨l9, 0, none⟩)), (77, .bool true), (79, .int .i64 0)] (by rfl) ?_
            refine OI_static 24 [(82, .bool true), (83, .pointer (some ⟨l9, 0, none⟩))] (by kernel_rfl) ?_
            refine OI_call { callee := (Callee.value (Operand.func 22)), args := #[(Operand.tmp 83), (Operand.const (Value.int IntKind.i64 1))], argTypes := #[22, 3] } 22 #[.pointer (some ⟨l9, 0, none⟩), .int .i64 1] (some 84) (by kernel_rfl) (by kernel_rfl) (by kernel_rfl) (held_spec F50 l9 (two (Acc.mk 0 0) (Acc.mk free 0)) (lockC ([] : List Ci) 1 0 lock) 1 _ ho51) ?_
            rintro _ w65 ⟨rfl, hk66⟩
            refine ⟨_, rfl, ?_⟩
            have hsz67 := Keep.size hk66
            replace hb5 := hb5.keep hk66 (fun f => f)
            have hb5lt := hb5.lt
            replace hK0 := Keep.tr hK0 (Keep.ofNone hk66); have hzhK0 := Keep.size hK0
            replace ho51 := Led.keep ho51 hk66 (fun _ _ f => f)
            refine OI_pick [(82, .bool true), (84, .int .i64 ((acct (two (Acc.mk 0 0) (Acc.mk free 0)) 1).held))] (by kernel_rfl) ?_
            refine OI_eq [(82, .bool true), (84, .int .i64 0)] (by rfl) ?_
            refine OI_static 28 [(87, .bool true)] (by kernel_rfl) ?_
            refine OI_call { callee := (Callee.value (Operand.func 18)), args := #[], argTypes := #[] } 18 #[] (some 88) (by kernel_rfl) (by kernel_rfl) (by kernel_rfl) (known_spec _) ?_
            rintro _ w68 ⟨rfl, hk69⟩
            refine ⟨_, rfl, ?_⟩
            have hsz70 := Keep.size hk69
            replace hb5 := hb5.keep hk69 (fun f => f)
            have hb5lt := hb5.lt
            replace hK0 := Keep.tr hK0 (Keep.ofNone hk69); have hzhK0 := Keep.size hK0
            replace ho51 := Led.keep ho51 hk69 (fun _ _ f => f)
            refine OI_static 31 [(6, .bool true)] (by kernel_rfl) ?_
            refine OI_end rfl ?_
            refine X_then ?_
            refine V_ret ?_
            exact X_return (.bool true) rfl ⟨rfl, hK0⟩
          · skip
            refine OI_eq [(0, .int .i64 free), (2, .int .i64 n), (7, .pointer (some ⟨l9, 0, none⟩)), (9, .int .i64 f9), (10, .int .i64 0), (11, .int .i64 0), (12, .int .i64 0), (52, .bool false)] (by first | simp [hg56] | rfl) ?_
            refine OI_static 7 [(0, .int .i64 free), (2, .int .i64 n), (7, .pointer (some ⟨l9, 0, none⟩)), (9, .int .i64 f9), (10, .int .i64 0), (11, .int .i64 0), (12, .int .i64 0), (49, .bool (decide (n > 1073741824)))] (by kernel_rfl) ?_
            refine OI_end rfl ?_
            refine X_then ?_
            refine V_if (n > 1073741824) (by kernel_rfl) (fun hc71 => ?_) (fun hc71 => ?_)
            · skip
              refine V_region ?_
              refine OI_static 1 [(0, .int .i64 free), (7, .pointer (some ⟨l9, 0, none⟩)), (9, .int .i64 f9), (10, .int .i64 0), (11, .int .i64 0), (12, .int .i64 1)] (by kernel_rfl) ?_
              refine OI_end rfl ?_
              refine X_block ?_
              refine X_then ?_
              refine V_seq ?_
              refine V_region ?_
              refine OI_static 4 [(0, .int .i64 free), (7, .pointer (some ⟨l9, 0, none⟩)), (10, .int .i64 0), (11, .int .i64 0), (63, .bool (decide (f9 = 1)))] (by kernel_rfl) ?_
              refine OI_eq [(0, .int .i64 free), (7, .pointer (some ⟨l9, 0, none⟩)), (10, .int .i64 0), (11, .int .i64 0), (63, .bool true)] (by rw [decide_eq_true (by omega : f9 = 1)]) ?_
              refine OI_static 13 [(0, .int .i64 free), (7, .pointer (some ⟨l9, 0, none⟩)), (71, .bool true), (72, .pointer (some ⟨l9, 0, none⟩))] (by kernel_rfl) ?_
              refine OI_call { callee := (Callee.value (Operand.func 20)), args := #[(Operand.tmp 72), (Operand.const (Value.int IntKind.i64 1))], argTypes := #[22, 3] } 20 #[.pointer (some ⟨l9, 0, none⟩), .int .i64 1] (some 73) (by kernel_rfl) (by kernel_rfl) (by kernel_rfl) (free_spec F50 l9 (two (Acc.mk 0 0) (Acc.mk free 0)) (lockC ([] : List Ci) 1 0 lock) 1 _ ho51) ?_
              rintro _ w73 ⟨rfl, hk74⟩
              refine ⟨_, rfl, ?_⟩
              have hsz75 := Keep.size hk74
              replace hb5 := hb5.keep hk74 (fun f => f)
              have hb5lt := hb5.lt
              replace hK0 := Keep.tr hK0 (Keep.ofNone hk74); have hzhK0 := Keep.size hK0
              replace ho51 := Led.keep ho51 hk74 (fun _ _ f => f)
              refine OI_pick [(0, .int .i64 free), (7, .pointer (some ⟨l9, 0, none⟩)), (71, .bool true), (73, .int .i64 ((acct (two (Acc.mk 0 0) (Acc.mk free 0)) 1).free))] (by kernel_rfl) ?_
              refine OI_eq [(0, .int .i64 free), (7, .pointer (some ⟨l9, 0, none⟩)), (71, .bool true), (73, .int .i64 free)] (by rfl) ?_
              refine OI_static 18 [(7, .pointer (some ⟨l9, 0, none⟩)), (77, .bool (decide (free = free)))] (by kernel_rfl) ?_
              refine OI_eq [(7, .pointer (some ⟨l9, 0, none⟩)), (77, .bool true)] (by rw [decide_eq_true (by omega : free = free)]) ?_
              refine OI_static 19 [(7, .pointer (some ⟨l9, 0, none⟩)), (77, .bool true), (78, .pointer (some ⟨l9, 0, none⟩))] (by kernel_rfl) ?_
              refine OI_call { callee := (Callee.value (Operand.func 20)), args := #[(Operand.tmp 78), (Operand.const (Value.int IntKind.i64 2))], argTypes := #[22, 3] } 20 #[.pointer (some ⟨l9, 0, none⟩), .int .i64 2] (some 79) (by kernel_rfl) (by kernel_rfl) (by kernel_rfl) (free_spec F50 l9 (two (Acc.mk 0 0) (Acc.mk free 0)) (lockC ([] : List Ci) 1 0 lock) 2 _ ho51) ?_
              rintro _ w77 ⟨rfl, hk78⟩
              refine ⟨_, rfl, ?_⟩
              have hsz79 := Keep.size hk78
              replace hb5 := hb5.keep hk78 (fun f => f)
              have hb5lt := hb5.lt
              replace hK0 := Keep.tr hK0 (Keep.ofNone hk78); have hzhK0 := Keep.size hK0
              replace ho51 := Led.keep ho51 hk78 (fun _ _ f => f)
              refine OI_pick [(7, .pointer (some ⟨l9, 0, none⟩)), (77, .bool true), (79, .int .i64 ((acct (two (Acc.mk 0 0) (Acc.mk free 0)) 2).free))] (by kernel_rfl) ?_
              refine OI_eq [(7, .pointer (some ⟨l9, 0, none⟩)), (77, .bool true), (79, .int .i64 0)] (by rfl) ?_
              refine OI_static 24 [(82, .bool true), (83, .pointer (some ⟨l9, 0, none⟩))] (by kernel_rfl) ?_
              refine OI_call { callee := (Callee.value (Operand.func 22)), args := #[(Operand.tmp 83), (Operand.const (Value.int IntKind.i64 1))], argTypes := #[22, 3] } 22 #[.pointer (some ⟨l9, 0, none⟩), .int .i64 1] (some 84) (by kernel_rfl) (by kernel_rfl) (by kernel_rfl) (held_spec F50 l9 (two (Acc.mk 0 0) (Acc.mk free 0)) (lockC ([] : List Ci) 1 0 lock) 1 _ ho51) ?_
              rintro _ w80 ⟨rfl, hk81⟩
              refine ⟨_, rfl, ?_⟩
              have hsz82 := Keep.size hk81
              replace hb5 := hb5.keep hk81 (fun f => f)
              have hb5lt := hb5.lt
              replace hK0 := Keep.tr hK0 (Keep.ofNone hk81); have hzhK0 := Keep.size hK0
              replace ho51 := Led.keep ho51 hk81 (fun _ _ f => f)
              refine OI_pick [(82, .bool true), (84, .int .i64 ((acct (two (Acc.mk 0 0) (Acc.mk free 0)) 1).held))] (by kernel_rfl) ?_
              refine OI_eq [(82, .bool true), (84, .int .i64 0)] (by rfl) ?_
              refine OI_static 28 [(87, .bool true)] (by kernel_rfl) ?_
              refine OI_call { callee := (Callee.value (Operand.func 18)), args := #[], argTypes := #[] } 18 #[] (some 88) (by kernel_rfl) (by kernel_rfl) (by kernel_rfl) (known_spec _) ?_
              rintro _ w83 ⟨rfl, hk84⟩
              refine ⟨_, rfl, ?_⟩
              have hsz85 := Keep.size hk84
              replace hb5 := hb5.keep hk84 (fun f => f)
              have hb5lt := hb5.lt
              replace hK0 := Keep.tr hK0 (Keep.ofNone hk84); have hzhK0 := Keep.size hK0
              replace ho51 := Led.keep ho51 hk84 (fun _ _ f => f)
              refine OI_static 31 [(6, .bool true)] (by kernel_rfl) ?_
              refine OI_end rfl ?_
              refine X_then ?_
              refine V_ret ?_
              exact X_return (.bool true) rfl ⟨rfl, hK0⟩
            · skip
              refine V_seq ?_
              refine V_region ?_
              refine OI_static 4 [(0, .int .i64 free), (7, .pointer (some ⟨l9, 0, none⟩)), (9, .int .i64 f9), (10, .int .i64 0), (11, .int .i64 0), (12, .int .i64 0), (56, .bool (decide (n > free)))] (by kernel_rfl) ?_
              refine OI_end rfl ?_
              refine X_then ?_
              refine V_if (n > free) (by kernel_rfl) (fun hc86 => ?_) (fun hc86 => ?_)
              · skip
                refine V_region ?_
                refine OI_static 1 [(0, .int .i64 free), (7, .pointer (some ⟨l9, 0, none⟩)), (9, .int .i64 f9), (10, .int .i64 0), (11, .int .i64 0), (12, .int .i64 6)] (by kernel_rfl) ?_
                refine OI_end rfl ?_
                refine X_block ?_
                refine X_then ?_
                refine V_seq ?_
                refine V_region ?_
                refine OI_static 4 [(0, .int .i64 free), (7, .pointer (some ⟨l9, 0, none⟩)), (10, .int .i64 0), (11, .int .i64 0), (63, .bool (decide (f9 = 6)))] (by kernel_rfl) ?_
                refine OI_eq [(0, .int .i64 free), (7, .pointer (some ⟨l9, 0, none⟩)), (10, .int .i64 0), (11, .int .i64 0), (63, .bool true)] (by rw [decide_eq_true (by omega : f9 = 6)]) ?_
                refine OI_static 13 [(0, .int .i64 free), (7, .pointer (some ⟨l9, 0, none⟩)), (71, .bool true), (72, .pointer (some ⟨l9, 0, none⟩))] (by kernel_rfl) ?_
                refine OI_call { callee := (Callee.value (Operand.func 20)), args := #[(Operand.tmp 72), (Operand.const (Value.int IntKind.i64 1))], argTypes := #[22, 3] } 20 #[.pointer (some ⟨l9, 0, none⟩), .int .i64 1] (some 73) (by kernel_rfl) (by kernel_rfl) (by kernel_rfl) (free_spec F50 l9 (two (Acc.mk 0 0) (Acc.mk free 0)) (lockC ([] : List Ci) 1 0 lock) 1 _ ho51) ?_
                rintro _ w88 ⟨rfl, hk89⟩
                refine ⟨_, rfl, ?_⟩
                have hsz90 := Keep.size hk89
                replace hb5 := hb5.keep hk89 (fun f => f)
                have hb5lt := hb5.lt
                replace hK0 := Keep.tr hK0 (Keep.ofNone hk89); have hzhK0 := Keep.size hK0
                replace ho51 := Led.keep ho51 hk89 (fun _ _ f => f)
                refine OI_pick [(0, .int .i64 free), (7, .pointer (some ⟨l9, 0, none⟩)), (71, .bool true), (73, .int .i64 ((acct (two (Acc.mk 0 0) (Acc.mk free 0)) 1).free))] (by kernel_rfl) ?_
                refine OI_eq [(0, .int .i64 free), (7, .pointer (some ⟨l9, 0, none⟩)), (71, .bool true), (73, .int .i64 free)] (by rfl) ?_
                refine OI_static 18 [(7, .pointer (some ⟨l9, 0, none⟩)), (77, .bool (decide (free = free)))] (by kernel_rfl) ?_
                refine OI_eq [(7, .pointer (some ⟨l9, 0, none⟩)), (77, .bool true)] (by rw [decide_eq_true (by omega : free = free)]) ?_
                refine OI_static 19 [(7, .pointer (some ⟨l9, 0, none⟩)), (77, .bool true), (78, .pointer (some ⟨l9, 0, none⟩))] (by kernel_rfl) ?_
                refine OI_call { callee := (Callee.value (Operand.func 20)), args := #[(Operand.tmp 78), (Operand.const (Value.int IntKind.i64 2))], argTypes := #[22, 3] } 20 #[.pointer (some ⟨l9, 0, none⟩), .int .i64 2] (some 79) (by kernel_rfl) (by kernel_rfl) (by kernel_rfl) (free_spec F50 l9 (two (Acc.mk 0 0) (Acc.mk free 0)) (lockC ([] : List Ci) 1 0 lock) 2 _ ho51) ?_
                rintro _ w92 ⟨rfl, hk93⟩
                refine ⟨_, rfl, ?_⟩
                have hsz94 := Keep.size hk93
                replace hb5 := hb5.keep hk93 (fun f => f)
                have hb5lt := hb5.lt
                replace hK0 := Keep.tr hK0 (Keep.ofNone hk93); have hzhK0 := Keep.size hK0
                replace ho51 := Led.keep ho51 hk93 (fun _ _ f => f)
                refine OI_pick [(7, .pointer (some ⟨l9, 0, none⟩)), (77, .bool true), (79, .int .i64 ((acct (two (Acc.mk 0 0) (Acc.mk free 0)) 2).free))] (by kernel_rfl) ?_
                refine OI_eq [(7, .pointer (some ⟨l9, 0, none⟩)), (77, .bool true), (79, .int .i64 0)] (by rfl) ?_
                refine OI_static 24 [(82, .bool true), (83, .pointer (some ⟨l9, 0, none⟩))] (by kernel_rfl) ?_
                refine OI_call { callee := (Callee.value (Operand.func 22)), args := #[(Operand.tmp 83), (Operand.const (Value.int IntKind.i64 1))], argTypes := #[22, 3] } 22 #[.pointer (some ⟨l9, 0, none⟩), .int .i64 1] (some 84) (by kernel_rfl) (by kernel_rfl) (by kernel_rfl) (held_spec F50 l9 (two (Acc.mk 0 0) (Acc.mk free 0)) (lockC ([] : List Ci) 1 0 lock) 1 _ ho51) ?_
                rintro _ w95 ⟨rfl, hk96⟩
                refine ⟨_, rfl, ?_⟩
                have hsz97 := Keep.size hk96
                replace hb5 := hb5.keep hk96 (fun f => f)
                have hb5lt := hb5.lt
                replace hK0 := Keep.tr hK0 (Keep.ofNone hk96); have hzhK0 := Keep.size hK0
                replace ho51 := Led.keep ho51 hk96 (fun _ _ f => f)
                refine OI_pick [(82, .bool true), (84, .int .i64 ((acct (two (Acc.mk 0 0) (Acc.mk free 0)) 1).held))] (by kernel_rfl) ?_
                refine OI_eq [(82, .bool true), (84, .int .i64 0)] (by rfl) ?_
                refine OI_static 28 [(87, .bool true)] (by kernel_rfl) ?_
                refine OI_call { callee := (Callee.value (Operand.func 18)), args := #[], argTypes := #[] } 18 #[] (some 88) (by kernel_rfl) (by kernel_rfl) (by kernel_rfl) (known_spec _) ?_
                rintro _ w98 ⟨rfl, hk99⟩
                refine ⟨_, rfl, ?_⟩
                have hsz100 := Keep.size hk99
                replace hb5 := hb5.keep hk99 (fun f => f)
                have hb5lt := hb5.lt
                replace hK0 := Keep.tr hK0 (Keep.ofNone hk99); have hzhK0 := Keep.size hK0
                replace ho51 := Led.keep ho51 hk99 (fun _ _ f => f)
                refine OI_static 31 [(6, .bool true)] (by kernel_rfl) ?_
                refine OI_end rfl ?_
                refine X_then ?_
                refine V_ret ?_
                exact X_return (.bool true) rfl ⟨rfl, hK0⟩
              · skip
                refine V_skip ?_
                refine X_block ?_
                refine X_then ?_
                refine V_seq ?_
                refine V_region ?_
                refine OI_static 4 [(0, .int .i64 free), (7, .pointer (some ⟨l9, 0, none⟩)), (10, .int .i64 0), (11, .int .i64 0), (63, .bool (decide (f9 = 0)))] (by kernel_rfl) ?_
                refine OI_eq [(0, .int .i64 free), (7, .pointer (some ⟨l9, 0, none⟩)), (10, .int .i64 0), (11, .int .i64 0), (63, .bool true)] (by rw [decide_eq_true (by omega : f9 = 0)]) ?_
                refine OI_static 13 [(0, .int .i64 free), (7, .pointer (some ⟨l9, 0, none⟩)), (71, .bool true), (72, .pointer (some ⟨l9, 0, none⟩))] (by kernel_rfl) ?_
                refine OI_call { callee := (Callee.value (Operand.func 20)), args := #[(Operand.tmp 72), (Operand.const (Value.int IntKind.i64 1))], argTypes := #[22, 3] } 20 #[.pointer (some ⟨l9, 0, none⟩), .int .i64 1] (some 73) (by kernel_rfl) (by kernel_rfl) (by kernel_rfl) (free_spec F50 l9 (two (Acc.mk 0 0) (Acc.mk free 0)) (lockC ([] : List Ci) 1 0 lock) 1 _ ho51) ?_
                rintro _ w102 ⟨rfl, hk103⟩
                refine ⟨_, rfl, ?_⟩
                have hsz104 := Keep.size hk103
                replace hb5 := hb5.keep hk103 (fun f => f)
                have hb5lt := hb5.lt
                replace hK0 := Keep.tr hK0 (Keep.ofNone hk103); have hzhK0 := Keep.size hK0
                replace ho51 := Led.keep ho51 hk103 (fun _ _ f => f)
                refine OI_pick [(0, .int .i64 free), (7, .pointer (some ⟨l9, 0, none⟩)), (71, .bool true), (73, .int .i64 ((acct (two (Acc.mk 0 0) (Acc.mk free 0)) 1).free))] (by kernel_rfl) ?_
                refine OI_eq [(0, .int .i64 free), (7, .pointer (some ⟨l9, 0, none⟩)), (71, .bool true), (73, .int .i64 free)] (by rfl) ?_
                refine OI_static 18 [(7, .pointer (some ⟨l9, 0, none⟩)), (77, .bool (decide (free = free)))] (by kernel_rfl) ?_
                refine OI_eq [(7, .pointer (some ⟨l9, 0, none⟩)), (77, .bool true)] (by rw [decide_eq_true (by omega : free = free)]) ?_
                refine OI_static 19 [(7, .pointer (some ⟨l9, 0, none⟩)), (77, .bool true), (78, .pointer (some ⟨l9, 0, none⟩))] (by kernel_rfl) ?_
                refine OI_call { callee := (Callee.value (Operand.func 20)), args := #[(Operand.tmp 78), (Operand.const (Value.int IntKind.i64 2))], argTypes := #[22, 3] } 20 #[.pointer (some ⟨l9, 0, none⟩), .int .i64 2] (some 79) (by kernel_rfl) (by kernel_rfl) (by kernel_rfl) (free_spec F50 l9 (two (Acc.mk 0 0) (Acc.mk free 0)) (lockC ([] : List Ci) 1 0 lock) 2 _ ho51) ?_
                rintro _ w106 ⟨rfl, hk107⟩
                refine ⟨_, rfl, ?_⟩
                have hsz108 := Keep.size hk107
                replace hb5 := hb5.keep hk107 (fun f => f)
                have hb5lt := hb5.lt
                replace hK0 := Keep.tr hK0 (Keep.ofNone hk107); have hzhK0 := Keep.size hK0
                replace ho51 := Led.keep ho51 hk107 (fun _ _ f => f)
                refine OI_pick [(7, .pointer (some ⟨l9, 0, none⟩)), (77, .bool true), (79, .int .i64 ((acct (two (Acc.mk 0 0) (Acc.mk free 0)) 2).free))] (by kernel_rfl) ?_
                refine OI_eq [(7, .pointer (some ⟨l9, 0, none⟩)), (77, .bool true), (79, .int .i64 0)] (by rfl) ?_
                refine OI_static 24 [(82, .bool true), (83, .pointer (some ⟨l9, 0, none⟩))] (by kernel_rfl) ?_
                refine OI_call { callee := (Callee.value (Operand.func 22)), args := #[(Operand.tmp 83), (Operand.const (Value.int IntKind.i64 1))], argTypes := #[22, 3] } 22 #[.pointer (some ⟨l9, 0, none⟩), .int .i64 1] (some 84) (by kernel_rfl) (by kernel_rfl) (by kernel_rfl) (held_spec F50 l9 (two (Acc.mk 0 0) (Acc.mk free 0)) (lockC ([] : List Ci) 1 0 lock) 1 _ ho51) ?_
                rintro _ w109 ⟨rfl, hk110⟩
                refine ⟨_, rfl, ?_⟩
                have hsz111 := Keep.size hk110
                replace hb5 := hb5.keep hk110 (fun f => f)
                have hb5lt := hb5.lt
                replace hK0 := Keep.tr hK0 (Keep.ofNone hk110); have hzhK0 := Keep.size hK0
                replace ho51 := Led.keep ho51 hk110 (fun _ _ f => f)
                refine OI_pick [(82, .bool true), (84, .int .i64 ((acct (two (Acc.mk 0 0) (Acc.mk free 0)) 1).held))] (by kernel_rfl) ?_
                refine OI_eq [(82, .bool true), (84, .int .i64 0)] (by rfl) ?_
                refine OI_static 28 [(87, .bool true)] (by kernel_rfl) ?_
                refine OI_call { callee := (Callee.value (Operand.func 18)), args := #[], argTypes := #[] } 18 #[] (some 88) (by kernel_rfl) (by kernel_rfl) (by kernel_rfl) (known_spec _) ?_
                rintro _ w112 ⟨rfl, hk113⟩
                refine ⟨_, rfl, ?_⟩
                have hsz114 := Keep.size hk113
                replace hb5 := hb5.keep hk113 (fun f => f)
                have hb5lt := hb5.lt
                replace hK0 := Keep.tr hK0 (Keep.ofNone hk113); have hzhK0 := Keep.size hK0
                replace ho51 := Led.keep ho51 hk113 (fun _ _ f => f)
                refine OI_static 31 [(6, .bool true)] (by kernel_rfl) ?_
                refine OI_end rfl ?_
                refine X_then ?_
                refine V_ret ?_
                exact X_return (.bool true) rfl ⟨rfl, hK0⟩
end Go.Al
