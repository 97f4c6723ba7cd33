/-
  Walks of the laws of ledger: what is locked stays.
-/
import Derived.Test.YtmflbilhdoiihaaLe8
namespace Go.Al
open Go Go.RowKit Go.Proofs
theorem new_ok (A : Option Addr) (cap : Nat) (fs : List Int) (w : World) (hA : ArgT w 1 intc A cap fs) (hn : fs.length ≤ 100000) (hok : okP fs) : Calls Try.prog 14 #[.slice A fs.length cap] w fun e w' => ∃ l F, e = .returned (.tuple #[.pointer (some ⟨l, 0, none⟩), .int .i64 0]) ∧ Led F w' l (newX fs 10) [] ∧ Keep none_ w w' ∧ (∀ q, F q → w.heap.size ≤ q) :=
  (new_spec6 A cap fs w hA hn).mono (by
    rintro e w' (⟨_, h⟩ | ⟨h, _⟩)
    · exact h
    · exact absurd hok h)
theorem new_no (A : Option Addr) (cap : Nat) (fs : List Int) (w : World) (hA : ArgT w 1 intc A cap fs) (hn : fs.length ≤ 100000) (hok : ¬ okP fs) : Calls Try.prog 14 #[.slice A fs.length cap] w fun e w' => e = .returned (.tuple #[.pointer none, .int .i64 1]) ∧ Keep none_ w w' :=
  (new_spec6 A cap fs w hA hn).mono (by
    rintro e w' (⟨h, _⟩ | ⟨_, h⟩)
    · exact absurd h hok
    · exact h)

/-! ### What is locked stays -/
theorem kn_ok : okP [5] := ⟨by decide, by decide, by decide⟩
def kX : List Acc := newX [5] 10
def kC : List Ci := lockC [] 0 1 3
theorem kn1 : transE kX kC 0 1 3 = 7 := by kernel_rfl
theorem kn2 : transX kX kC 0 1 3 = kX := by kernel_rfl
theorem kn3 : transE kX kC 0 1 2 = 0 := by kernel_rfl
theorem kn4 : (acct (transX kX kC 0 1 2) 0).free = 3 := by kernel_rfl
theorem kn5 : tot (transX kX kC 0 1 2) = 5 := by kernel_rfl

theorem known_spec (w : World) : Calls Try.prog 18 #[] w fun e w' => e = .returned (.bool true) ∧ Keep none_ w w' := by
  have hK0 : Keep none_ w w := Keep.refl _ _
  have hzhK0 := Keep.size hK0
  refine enterV Try.func18 rfl [] 38 rfl rfl rfl ?_
  refine V_pick [] rfl ?_
  refine V_seq ?_
  refine V_region ?_
  refine OI_static 1 [] (by kernel_rfl) ?_
  refine OI_end rfl ?_
  refine X_then ?_
  refine V_seq ?_
  refine V_region ?_
  refine OI_slit (E := 3) (zv := .int .i64 0) (sz := 1) (by_ := 8) 26 1 #[(0, (Operand.const (Value.int IntKind.i64 5)))] [.int .i64 5] [.int .i64 5] (some 6) (by kernel_rfl) (by kernel_rfl) (by kernel_rfl) (by omega) rfl (by omega) (by intro v hv; simp only [List.mem_cons, List.not_mem_nil, or_false] at hv; rcases hv with rfl <;> rfl) (by kernel_rfl) rfl ?_
  intro b1 w1 e1 hb1 k1 z1
  have hsz2 := Keep.size k1
  replace hK0 := Keep.tr hK0 (Keep.ofNone k1); have hzhK0 := Keep.size hK0
  have hb1lt := hb1.lt
  refine OI_call { callee := (Callee.value (Operand.func 14)), args := #[(Operand.tmp 6)], argTypes := #[26] } 14 #[.slice (some ⟨b1, 0, none⟩) 1 1] (some 7) (by kernel_rfl) (by kernel_rfl) (by kernel_rfl) (new_ok (some ⟨b1, 0, none⟩) 1 [5] _ (slt_blk (xs := [5]) (f := intc) hb1 (fun _ => rfl) rfl).arg (by simp) kn_ok) ?_
  rintro _ w3 ⟨l5, F6, rfl, ho7, hk4, hge8⟩
  refine ⟨_, rfl, ?_⟩
  have hsz9 := Keep.size hk4
  replace hb1 := hb1.keep hk4 (fun f => f)
  have hb1lt := hb1.lt
  replace hK0 := Keep.tr hK0 (Keep.ofNone hk4); have hzhK0 := Keep.size hK0
  have own10 : ∀ q, F6 q → w1.heap.size ≤ q ∧ q ≠ b1 := fun q hq => by have h1 := hge8 q hq; omega
  have lt11 := Led.lt ho7
  have hl5lt : l5 < w3.heap.size := Led.lt ho7 _ (Led.at_ ho7)
  have hl5ge := hge8 _ (Led.at_ ho7)
  rw [show newX [5] 10 = kX from rfl] at ho7
  refine OI_static 7 [(1, .pointer (some ⟨l5, 0, none⟩)), (2, .int .i64 0)] (by kernel_rfl) ?_
  refine OI_end rfl ?_
  refine X_then ?_
  refine V_seq ?_
  refine V_seq ?_
  refine V_region ?_
  refine OI_static 6 [(1, .pointer (some ⟨l5, 0, none⟩)), (15, .bool false)] (by kernel_rfl) ?_
  refine OI_end rfl ?_
  refine X_then ?_
  refine V_false rfl ?_
  refine V_skip ?_
  refine X_then ?_
  refine V_seq ?_
  refine V_region ?_
  refine OI_static 1 [(1, .pointer (some ⟨l5, 0, none⟩)), (16, .pointer (some ⟨l5, 0, none⟩))] (by kernel_rfl) ?_
  refine OI_call { callee := (Callee.value (Operand.func 15)), args := #[(Operand.tmp 16), (Operand.const (Value.int IntKind.i64 0)), (Operand.const (Value.int IntKind.i64 1)), (Operand.const (Value.int IntKind.i64 3))], argTypes := #[22, 3, 3, 3] } 15 #[.pointer (some ⟨l5, 0, none⟩), .int .i64 0, .int .i64 1, .int .i64 3] (some 17) (by kernel_rfl) (by kernel_rfl) (by kernel_rfl) (lock_spec F6 l5 kX ([] : List Ci) 0 1 3 _ ho7 (by simp)) ?_
  rintro _ w14 ⟨rfl, ⟨F16, ho17, hfr18⟩, hk15⟩
  refine ⟨_, rfl, ?_⟩
  have hsz19 := Keep.size hk15
  replace hb1 := hb1.keep hk15 (fun hs => by have h1 := own10 _ hs; have h2 := lt11 _ hs; omega)
  have hb1lt := hb1.lt
  replace hK0 := Keep.fresh hK0 hk15 (by intro i hi hs; first | exact hs | (exfalso; have h1 := own10 i hs; have h2 := lt11 i hs; omega) | (have h1 := own10 i hs; have h2 := lt11 i hs; show _ ∨ _; omega)); have hzhK0 := Keep.size hK0
  have own21 : ∀ q, F16 q → w1.heap.size ≤ q ∧ q ≠ b1 := fun q hq => by rcases hfr18 q hq with h | h; (have h1 := own10 q h; have h2 := lt11 q h; omega); omega
  have lt20 := Led.lt ho17
  rw [show lockC ([] : List Ci) 0 1 3 = kC from rfl] at ho17
  refine OI_end rfl ?_
  refine X_then ?_
  refine V_seq ?_
  refine V_region ?_
  refine OI_static 1 [(1, .pointer (some ⟨l5, 0, none⟩)), (18, .pointer (some ⟨l5, 0, none⟩))] (by kernel_rfl) ?_
  refine OI_call { callee := (Callee.value (Operand.func 17)), args := #[(Operand.tmp 18), (Operand.const (Value.int IntKind.i64 0)), (Operand.const (Value.int IntKind.i64 1)), (Operand.const (Value.int IntKind.i64 3))], argTypes := #[22, 3, 3, 3] } 17 #[.pointer (some ⟨l5, 0, none⟩), .int .i64 0, .int .i64 1, .int .i64 3] (some 19) (by kernel_rfl) (by kernel_rfl) (by kernel_rfl) (transfer_spec F16 l5 kX kC 0 1 3 _ ho17) ?_
  rintro _ w24 ⟨rfl, ⟨F26, ho27, hfr28⟩, hk25⟩
  refine ⟨_, rfl, ?_⟩
  have hsz29 := Keep.size hk25
  replace hb1 := hb1.keep hk25 (fun hs => by have h1 := own21 _ hs; have h2 := lt20 _ hs; omega)
  have hb1lt := hb1.lt
  replace hK0 := Keep.fresh hK0 hk25 (by intro i hi hs; first | exact hs | (exfalso; have h1 := own21 i hs; have h2 := lt20 i hs; omega) | (have h1 := own21 i hs; have h2 := lt20 i hs; show _ ∨ _; omega)); have hzhK0 := Keep.size hK0
  have own31 : ∀ q, F26 q → w1.heap.size ≤ q ∧ q ≠ b1 := fun q hq => by rcases hfr28 q hq with h | h; (have h1 := own21 q h; have h2 := lt20 q h; omega); omega
  have lt30 := Led.lt ho27
  rw [kn2] at ho27
  refine OI_pick [(1, .pointer (some ⟨l5, 0, none⟩)), (19, .int .i64 (transE kX kC 0 1 3))] (by kernel_rfl) ?_
  refine OI_eq [(1, .pointer (some ⟨l5, 0, none⟩)), (19, .int .i64 7)] (by rw [kn1]) ?_
  refine OI_static 3 [(1, .pointer (some ⟨l5, 0, none⟩)), (3, .int .i64 7)] (by kernel_rfl) ?_
  refine OI_end rfl ?_
  refine X_then ?_
  refine V_seq ?_
  refine V_region ?_
  refine OI_static 1 [(1, .pointer (some ⟨l5, 0, none⟩)), (3, .int .i64 7), (20, .pointer (some ⟨l5, 0, none⟩))] (by kernel_rfl) ?_
  refine OI_call { callee := (Callee.value (Operand.func 17)), args := #[(Operand.tmp 20), (Operand.const (Value.int IntKind.i64 0)), (Operand.const (Value.int IntKind.i64 1)), (Operand.const (Value.int IntKind.i64 2))], argTypes := #[22, 3, 3, 3] } 17 #[.pointer (some ⟨l5, 0, none⟩), .int .i64 0, .int .i64 1, .int .i64 2] (some 21) (by kernel_rfl) (by kernel_rfl) (by kernel_rfl) (transfer_spec F26 l5 kX kC 0 1 2 _ ho27) ?_
  rintro _ w34 ⟨rfl, ⟨F36, ho37, hfr38⟩, hk35⟩
  refine ⟨_, rfl, ?_⟩
  have hsz39 := Keep.size hk35
  replace hb1 := hb1.keep hk35 (fun hs => by have h1 := own31 _ hs; have h2 := lt30 _ hs; omega)
  have hb1lt := hb1.lt
  replace hK0 := Keep.fresh hK0 hk35 (by intro i hi hs; first | exact hs | (exfalso; have h1 := own31 i hs; have h2 := lt30 i hs; omega) | (have h1 := own31 i hs; have h2 := lt30 i hs; show _ ∨ _; omega)); have hzhK0 := Keep.size hK0
  have own41 : ∀ q, F36 q → w1.heap.size ≤ q ∧ q ≠ b1 := fun q hq => by rcases hfr38 q hq with h | h; (have h1 := own31 q h; have h2 := lt30 q h; omega); omega
  have lt40 := Led.lt ho37
  refine OI_pick [(1, .pointer (some ⟨l5, 0, none⟩)), (3, .int .i64 7), (21, .int .i64 (transE kX kC 0 1 2))] (by kernel_rfl) ?_
  refine OI_eq [(1, .pointer (some ⟨l5, 0, none⟩)), (3, .int .i64 7), (21, .int .i64 0)] (by rw [kn3]) ?_
  refine OI_static 3 [(1, .pointer (some ⟨l5, 0, none⟩)), (3, .int .i64 7), (4, .int .i64 0)] (by kernel_rfl) ?_
  refine OI_end rfl ?_
  refine X_then ?_
  refine V_seq ?_
  refine V_region ?_
  refine OI_static 8 [(1, .pointer (some ⟨l5, 0, none⟩)), (28, .bool true), (29, .pointer (some ⟨l5, 0, none⟩))] (by kernel_rfl) ?_
  refine OI_call { callee := (Callee.value (Operand.func 20)), args := #[(Operand.tmp 29), (Operand.const (Value.int IntKind.i64 0))], argTypes := #[22, 3] } 20 #[.pointer (some ⟨l5, 0, none⟩), .int .i64 0] (some 30) (by kernel_rfl) (by kernel_rfl) (by kernel_rfl) (free_spec F36 l5 (transX kX kC 0 1 2) kC 0 _ ho37) ?_
  rintro _ w42 ⟨rfl, hk43⟩
  refine ⟨_, rfl, ?_⟩
  have hsz44 := Keep.size hk43
  replace hb1 := hb1.keep hk43 (fun f => f)
  have hb1lt := hb1.lt
  replace hK0 := Keep.tr hK0 (Keep.ofNone hk43); have hzhK0 := Keep.size hK0
  replace ho37 := Led.keep ho37 hk43 (fun _ _ f => f)
  refine OI_pick [(1, .pointer (some ⟨l5, 0, none⟩)), (28, .bool true), (30, .int .i64 ((acct (transX kX kC 0 1 2) 0).free))] (by kernel_rfl) ?_
  refine OI_eq [(1, .pointer (some ⟨l5, 0, none⟩)), (28, .bool true), (30, .int .i64 3)] (by rw [kn4]) ?_
  refine OI_static 13 [(33, .bool true), (34, .pointer (some ⟨l5, 0, none⟩))] (by kernel_rfl) ?_
  refine OI_call { callee := (Callee.value (Operand.func 19)), args := #[(Operand.tmp 34)], argTypes := #[22] } 19 #[.pointer (some ⟨l5, 0, none⟩)] (some 35) (by kernel_rfl) (by kernel_rfl) (by kernel_rfl) (issued_spec F36 l5 (transX kX kC 0 1 2) kC _ ho37) ?_
  rintro _ w45 ⟨rfl, hk46⟩
  refine ⟨_, rfl, ?_⟩
  have hsz47 := Keep.size hk46
  replace hb1 := hb1.keep hk46 (fun f => f)
  have hb1lt := hb1.lt
  replace hK0 := Keep.tr hK0 (Keep.ofNone hk46); have hzhK0 := Keep.size hK0
  replace ho37 := Led.keep ho37 hk46 (fun _ _ f => f)
  refine OI_pick [(33, .bool true), (35, .int .i64 (tot (transX kX kC 0 1 2)))] (by kernel_rfl) ?_
  refine OI_eq [(33, .bool true), (35, .int .i64 5)] (by rw [kn5]) ?_
  refine OI_static 17 [(0, .bool true)] (by kernel_rfl) ?_
  refine OI_end rfl ?_
  refine X_then ?_
  refine V_ret ?_
  exact X_return (.bool true) rfl ⟨rfl, hK0⟩
end Go.Al
