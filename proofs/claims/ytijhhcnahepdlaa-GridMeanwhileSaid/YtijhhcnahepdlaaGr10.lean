/-
  Walks of the laws of grid: a known column; a nil grid.
-/
import Derived.Test.YtijhhcnahepdlaaGr9
namespace Go.Al
open Go Go.RowKit Go.Proofs
theorem known_spec (w : World) : Calls Try.prog 14 #[] w fun e w' => e = .returned (.bool true) ∧ Keep none_ w w' := by
  have hK0 : Keep none_ w w := Keep.refl _ _
  have hzhK0 := Keep.size hK0
  refine enterV Try.func14 rfl [] 55 rfl rfl rfl ?_
  refine V_pick [] rfl ?_
  refine V_seq ?_
  refine V_region ?_
  refine OI_static 1 [] (by kernel_rfl) ?_
  refine OI_end rfl ?_
  refine X_then ?_
  refine V_seq ?_
  refine V_region ?_
  refine OI_call { callee := (Callee.value (Operand.func 10)), args := #[], argTypes := #[] } 10 #[] (some 5) (by kernel_rfl) (by kernel_rfl) (by kernel_rfl) (new_grd _) ?_
  rintro _ w3 ⟨g5, F6, rfl, ho7, hk4, hge8⟩
  refine ⟨_, rfl, ?_⟩
  have hsz9 := Keep.size hk4
  replace hK0 := Keep.tr hK0 (Keep.ofNone hk4); have hzhK0 := Keep.size hK0
  have own10 : ∀ q, F6 q → w.heap.size ≤ q := fun q hq => by have h1 := hge8 q hq; omega
  have lt11 := Grd.lt ho7
  have hg5lt : g5 < w3.heap.size := Grd.lt ho7 _ (Grd.at_ ho7)
  have hg5ge := hge8 _ (Grd.at_ ho7)
  refine OI_static 2 [(1, .pointer (some ⟨g5, 0, none⟩))] (by kernel_rfl) ?_
  refine OI_end rfl ?_
  refine X_then ?_
  refine V_seq ?_
  refine V_seq ?_
  refine V_region ?_
  refine OI_static 2 [(1, .pointer (some ⟨g5, 0, none⟩)), (7, .bool false)] (by kernel_rfl) ?_
  refine OI_end rfl ?_
  refine X_then ?_
  refine V_false rfl ?_
  refine V_skip ?_
  refine X_then ?_
  refine V_seq ?_
  refine V_region ?_
  refine OI_static 1 [(1, .pointer (some ⟨g5, 0, none⟩)), (8, .pointer (some ⟨g5, 0, none⟩))] (by kernel_rfl) ?_
  have hs14 : setC 5 1 7 ([] : List Ci) = [⟨5, 1, 7⟩] := by simp [setC, ltC]
  refine OI_call { callee := (Callee.value (Operand.func 11)), args := #[(Operand.tmp 8), (Operand.const (Value.int IntKind.i64 5)), (Operand.const (Value.int IntKind.i64 1)), (Operand.const (Value.int IntKind.i64 7))], argTypes := #[22, 3, 3, 3] } 11 #[.pointer (some ⟨g5, 0, none⟩), .int .i64 5, .int .i64 1, .int .i64 7] (some 9) (by kernel_rfl) (by kernel_rfl) (by kernel_rfl) (set_grd F6 g5 ([] : List Ci) 5 1 7 _ ho7 (by simp)) ?_
  rintro _ w15 ⟨rfl, ⟨F17, ho18, hfr19⟩, hk16⟩
  refine ⟨_, rfl, ?_⟩
  have hsz20 := Keep.size hk16
  replace hK0 := Keep.fresh hK0 hk16 (by intro i hi hs; first | exact hs | (exfalso; have h1 := own10 i hs; have h2 := lt11 i hs; omega) | (have h1 := own10 i hs; have h2 := lt11 i hs; show _ ∨ _; omega)); have hzhK0 := Keep.size hK0
  rw [hs14] at ho18
  have own22 : ∀ q, F17 q → w.heap.size ≤ q := fun q hq => by rcases hfr19 q hq with h | h; (have h1 := own10 q h; have h2 := lt11 q h; omega); omega
  have lt21 := Grd.lt ho18
  refine OI_end rfl ?_
  refine X_then ?_
  refine V_seq ?_
  refine V_region ?_
  refine OI_static 1 [(1, .pointer (some ⟨g5, 0, none⟩)), (10, .pointer (some ⟨g5, 0, none⟩))] (by kernel_rfl) ?_
  have hs25 : setC 2 1 8 [⟨5, 1, 7⟩] = [⟨2, 1, 8⟩, ⟨5, 1, 7⟩] := by simp [setC, ltC]
  refine OI_call { callee := (Callee.value (Operand.func 11)), args := #[(Operand.tmp 10), (Operand.const (Value.int IntKind.i64 2)), (Operand.const (Value.int IntKind.i64 1)), (Operand.const (Value.int IntKind.i64 8))], argTypes := #[22, 3, 3, 3] } 11 #[.pointer (some ⟨g5, 0, none⟩), .int .i64 2, .int .i64 1, .int .i64 8] (some 11) (by kernel_rfl) (by kernel_rfl) (by kernel_rfl) (set_grd F17 g5 [⟨5, 1, 7⟩] 2 1 8 _ ho18 (by simp)) ?_
  rintro _ w26 ⟨rfl, ⟨F28, ho29, hfr30⟩, hk27⟩
  refine ⟨_, rfl, ?_⟩
  have hsz31 := Keep.size hk27
  replace hK0 := Keep.fresh hK0 hk27 (by intro i hi hs; first | exact hs | (exfalso; have h1 := own22 i hs; have h2 := lt21 i hs; omega) | (have h1 := own22 i hs; have h2 := lt21 i hs; show _ ∨ _; omega)); have hzhK0 := Keep.size hK0
  rw [hs25] at ho29
  have own33 : ∀ q, F28 q → w.heap.size ≤ q := fun q hq => by rcases hfr30 q hq with h | h; (have h1 := own22 q h; have h2 := lt21 q h; omega); omega
  have lt32 := Grd.lt ho29
  refine OI_end rfl ?_
  refine X_then ?_
  refine V_seq ?_
  refine V_region ?_
  refine OI_static 1 [(1, .pointer (some ⟨g5, 0, none⟩)), (12, .pointer (some ⟨g5, 0, none⟩))] (by kernel_rfl) ?_
  have hs36 : setC 2 3 9 [⟨2, 1, 8⟩, ⟨5, 1, 7⟩] = [⟨2, 1, 8⟩, ⟨2, 3, 9⟩, ⟨5, 1, 7⟩] := by simp [setC, ltC]
  refine OI_call { callee := (Callee.value (Operand.func 11)), args := #[(Operand.tmp 12), (Operand.const (Value.int IntKind.i64 2)), (Operand.const (Value.int IntKind.i64 3)), (Operand.const (Value.int IntKind.i64 9))], argTypes := #[22, 3, 3, 3] } 11 #[.pointer (some ⟨g5, 0, none⟩), .int .i64 2, .int .i64 3, .int .i64 9] (some 13) (by kernel_rfl) (by kernel_rfl) (by kernel_rfl) (set_grd F28 g5 [⟨2, 1, 8⟩, ⟨5, 1, 7⟩] 2 3 9 _ ho29 (by simp)) ?_
  rintro _ w37 ⟨rfl, ⟨F39, ho40, hfr41⟩, hk38⟩
  refine ⟨_, rfl, ?_⟩
  have hsz42 := Keep.size hk38
  replace hK0 := Keep.fresh hK0 hk38 (by intro i hi hs; first | exact hs | (exfalso; have h1 := own33 i hs; have h2 := lt32 i hs; omega) | (have h1 := own33 i hs; have h2 := lt32 i hs; show _ ∨ _; omega)); have hzhK0 := Keep.size hK0
  rw [hs36] at ho40
  have own44 : ∀ q, F39 q → w.heap.size ≤ q := fun q hq => by rcases hfr41 q hq with h | h; (have h1 := own33 q h; have h2 := lt32 q h; omega); omega
  have lt43 := Grd.lt ho40
  refine OI_end rfl ?_
  refine X_then ?_
  refine V_seq ?_
  refine V_region ?_
  refine OI_static 1 [(1, .pointer (some ⟨g5, 0, none⟩)), (15, .pointer (some ⟨g5, 0, none⟩))] (by kernel_rfl) ?_
  refine OI_call { callee := (Callee.value (Operand.func 13)), args := #[(Operand.tmp 15), (Operand.const (Value.int IntKind.i64 1))], argTypes := #[22, 3] } 13 #[.pointer (some ⟨g5, 0, none⟩), .int .i64 1] (some 16) (by kernel_rfl) (by kernel_rfl) (by kernel_rfl) (column_spec _ rfl 1 _) ?_
  rintro _ w45 ⟨bg47, bs48, bn49, rfl, hbg47, hbs48, hbn49, hk46, hgebg47, hgebs48, hgebn49⟩
  refine ⟨_, rfl, ?_⟩
  have hsz50 := Keep.size hk46
  replace hK0 := Keep.tr hK0 (Keep.ofNone hk46); have hzhK0 := Keep.size hK0
  replace ho40 := Grd.keep ho40 hk46 (fun _ _ f => f)
  have hbg47lt := hbg47.lt
  have hbs48lt := hbs48.lt
  have hbn49lt := hbn49.lt
  refine OI_call { callee := (Callee.value (Operand.func 20)), args := #[(Operand.tmp 16)], argTypes := #[26] } 20 #[.func (.func 47) #[] #[.pointer (some ⟨bg47, 0, none⟩), .pointer (some ⟨bs48, 0, none⟩), .pointer (some ⟨bn49, 0, none⟩)]] (some 17) (by kernel_rfl) (by kernel_rfl) (by kernel_rfl) (told_col F39 g5 [⟨2, 1, 8⟩, ⟨2, 3, 9⟩, ⟨5, 1, 7⟩] 1 bg47 bs48 bn49 [(2, 8), (5, 7)] _ (by decide) ho40 hbg47 hbs48 hbn49 (by simp)) ?_
  rintro _ w51 ⟨Ak53, capk53, Av53, capv53, rfl, hAk53, hAv53, hk52, owAk53, owAv53⟩
  refine ⟨_, rfl, ?_⟩
  have hsz54 := Keep.size hk52
  replace hbg47 := hbg47.keep hk52 (fun f => f)
  have hbg47lt := hbg47.lt
  replace hbs48 := hbs48.keep hk52 (fun f => f)
  have hbs48lt := hbs48.lt
  replace hbn49 := hbn49.keep hk52 (fun f => f)
  have hbn49lt := hbn49.lt
  replace hK0 := Keep.tr hK0 (Keep.ofNone hk52); have hzhK0 := Keep.size hK0
  replace ho40 := Grd.keep ho40 hk52 (fun _ _ f => f)
  replace hAk53 : SlT w51 1 intc Ak53 capk53 [2, 5] := hAk53
  have ltAk53 := SlT.lt hAk53
  replace hAv53 : SlT w51 1 intc Av53 capv53 [8, 7] := hAv53
  have ltAv53 := SlT.lt hAv53
  refine OI_static 10 [(1, .pointer (some ⟨g5, 0, none⟩)), (2, .slice Ak53 2 capk53), (3, .slice Av53 2 capv53), (4, .bool true)] (by kernel_rfl) ?_
  refine OI_end rfl ?_
  refine X_then ?_
  refine V_seq ?_
  refine V_region ?_
  refine OI_static 13 [(1, .pointer (some ⟨g5, 0, none⟩)), (2, .slice Ak53 2 capk53), (3, .slice Av53 2 capv53), (32, .bool true), (33, .slice Ak53 2 capk53)] (by kernel_rfl) ?_
  obtain ⟨b55, o55, L55, T55, rfl, hat55⟩ := SlT.open_ hAk53 (by first | omega | (simp only [List.length_map]; omega) | (simp; done) | (simp; omega))
  have hb55lt := hat55.blk.lt
  have hob56 := owAk53 b55 ⟨_, rfl, rfl⟩
  have hob57 := ltAk53 b55 ⟨_, rfl, rfl⟩
  refine OI_pure (some 34) (.indexAddr 30 (.tmp 33) (.const (Value.int IntKind.i64 0))) (by kernel_rfl) (pure_idxN (b := b55) (o := o55) (len := 2) (cap := capk53) (kd := .i64) (j := 0) (E := 3) (sz := 1) (by_ := 8) (by kernel_rfl) (by kernel_rfl) (by kernel_rfl) (by omega)) ?_
  refine OI_cell 3 (.tmp 34) (o55 + 0 * 1) (.int .i64 2) (some 35) (by kernel_rfl) (by kernel_rfl) hat55.blk (m := 1) (by kernel_rfl) (At.cell0 hat55 (es_at (rfl : ([2, 5] : List Int)[0]? = some 2)) rfl) ?_
  refine OI_static 19 [(1, .pointer (some ⟨g5, 0, none⟩)), (2, .slice (some ⟨b55, o55, none⟩) 2 capk53), (38, .bool true), (39, .slice Av53 2 capv53)] (by kernel_rfl) ?_
  obtain ⟨b58, o58, L58, T58, rfl, hat58⟩ := SlT.open_ hAv53 (by first | omega | (simp only [List.length_map]; omega) | (simp; done) | (simp; omega))
  have hb58lt := hat58.blk.lt
  have hob59 := owAv53 b58 ⟨_, rfl, rfl⟩
  have hob60 := ltAv53 b58 ⟨_, rfl, rfl⟩
  refine OI_pure (some 40) (.indexAddr 30 (.tmp 39) (.const (Value.int IntKind.i64 0))) (by kernel_rfl) (pure_idxN (b := b58) (o := o58) (len := 2) (cap := capv53) (kd := .i64) (j := 0) (E := 3) (sz := 1) (by_ := 8) (by kernel_rfl) (by kernel_rfl) (by kernel_rfl) (by omega)) ?_
  refine OI_cell 3 (.tmp 40) (o58 + 0 * 1) (.int .i64 8) (some 41) (by kernel_rfl) (by kernel_rfl) hat58.blk (m := 1) (by kernel_rfl) (At.cell0 hat58 (es_at (rfl : ([8, 7] : List Int)[0]? = some 8)) rfl) ?_
  refine OI_static 25 [(1, .pointer (some ⟨g5, 0, none⟩)), (44, .bool true), (45, .slice (some ⟨b55, o55, none⟩) 2 capk53)] (by kernel_rfl) ?_
  refine OI_pure (some 46) (.indexAddr 30 (.tmp 45) (.const (Value.int IntKind.i64 1))) (by kernel_rfl) (pure_idxN (b := b55) (o := o55) (len := 2) (cap := capk53) (kd := .i64) (j := 1) (E := 3) (sz := 1) (by_ := 8) (by kernel_rfl) (by kernel_rfl) (by kernel_rfl) (by omega)) ?_
  refine OI_cell 3 (.tmp 46) (o55 + 1 * 1) (.int .i64 5) (some 47) (by kernel_rfl) (by kernel_rfl) hat55.blk (m := 1) (by kernel_rfl) (At.cell0 hat55 (es_at (rfl : ([2, 5] : List Int)[1]? = some 5)) rfl) ?_
  refine OI_static 31 [(50, .bool true), (51, .pointer (some ⟨g5, 0, none⟩))] (by kernel_rfl) ?_
  refine OI_call { callee := (Callee.value (Operand.func 21)), args := #[(Operand.tmp 51)], argTypes := #[22] } 21 #[.pointer (some ⟨g5, 0, none⟩)] (some 52) (by kernel_rfl) (by kernel_rfl) (by kernel_rfl) (len_spec F39 g5 [⟨2, 1, 8⟩, ⟨2, 3, 9⟩, ⟨5, 1, 7⟩] _ (Grd.gr ho40)) ?_
  rintro _ w51 ⟨rfl, rfl⟩
  refine ⟨_, rfl, ?_⟩
  refine OI_static 35 [(0, .bool true)] (by kernel_rfl) ?_
  refine OI_end rfl ?_
  refine X_then ?_
  refine V_ret ?_
  exact X_return (.bool true) rfl ⟨rfl, hK0⟩

theorem walk_GridOfNothing (a b : Int) (w : World) : Calls Try.prog 9 #[.int .i64 a, .int .i64 b] w fun e w' => e = .returned (.bool true) ∧ Keep none_ w w' := by
  have hK0 : Keep none_ w w := Keep.refl _ _
  have hzhK0 := Keep.size hK0
  refine enterV Try.func9 rfl [.int .i64 a, .int .i64 b] 74 rfl rfl rfl ?_
  refine V_pick [(0, .int .i64 a), (1, .int .i64 b)] rfl ?_
  refine V_seq ?_
  refine V_region ?_
  refine OI_static 1 [(0, .int .i64 a), (1, .int .i64 b)] (by kernel_rfl) ?_
  refine OI_end rfl ?_
  refine X_then ?_
  refine V_seq ?_
  refine V_region ?_
  refine OI_static 1 [(0, .int .i64 a), (1, .int .i64 b), (5, .pointer none)] (by kernel_rfl) ?_
  refine OI_end rfl ?_
  refine X_then ?_
  refine V_seq ?_
  refine V_region ?_
  refine OI_static 3 [(0, .int .i64 a), (1, .int .i64 b), (5, .pointer none), (16, .pointer none), (17, .int .i64 a), (18, .int .i64 b)] (by kernel_rfl) ?_
  refine OI_call { callee := (Callee.value (Operand.func 11)), args := #[(Operand.tmp 16), (Operand.tmp 17), (Operand.tmp 18), (Operand.const (Value.int IntKind.i64 5))], argTypes := #[22, 3, 3, 3] } 11 #[.pointer none, .int .i64 a, .int .i64 b, .int .i64 5] (some 19) (by kernel_rfl) (by kernel_rfl) (by kernel_rfl) (set_nil a b 5 _) ?_
  rintro _ w1 ⟨rfl, hk2⟩
  refine ⟨_, rfl, ?_⟩
  have hsz3 := Keep.size hk2
  replace hK0 := Keep.tr hK0 (Keep.ofNone hk2); have hzhK0 := Keep.size hK0
  refine OI_end rfl ?_
  refine X_then ?_
  refine V_seq ?_
  refine V_region ?_
  refine OI_static 3 [(0, .int .i64 a), (1, .int .i64 b), (5, .pointer none), (21, .pointer none), (22, .int .i64 a), (23, .int .i64 b)] (by kernel_rfl) ?_
  refine OI_call { callee := (Callee.value (Operand.func 28)), args := #[(Operand.tmp 21), (Operand.tmp 22), (Operand.tmp 23)], argTypes := #[22, 3, 3] } 28 #[.pointer none, .int .i64 a, .int .i64 b] (some 24) (by kernel_rfl) (by kernel_rfl) (by kernel_rfl) (get_nil a b _) ?_
  rintro _ w4 ⟨rfl, hk5⟩
  refine ⟨_, rfl, ?_⟩
  have hsz6 := Keep.size hk5
  replace hK0 := Keep.tr hK0 (Keep.ofNone hk5); have hzhK0 := Keep.size hK0
  refine OI_static 9 [(0, .int .i64 a), (1, .int .i64 b), (5, .pointer none), (7, .bool false)] (by kernel_rfl) ?_
  refine OI_end rfl ?_
  refine X_then ?_
  refine V_seq ?_
  refine V_region ?_
  refine OI_static 2 [(0, .int .i64 a), (1, .int .i64 b), (5, .pointer none), (7, .bool false), (28, .pointer none), (29, .int .i64 a)] (by kernel_rfl) ?_
  refine OI_call { callee := (Callee.value (Operand.func 12)), args := #[(Operand.tmp 28), (Operand.tmp 29)], argTypes := #[22, 3] } 12 #[.pointer none, .int .i64 a] (some 30) (by kernel_rfl) (by kernel_rfl) (by kernel_rfl) (row_spec _ rfl a _) ?_
  rintro _ w7 ⟨bg9, bs10, bn11, rfl, hbg9, hbs10, hbn11, hk8, hgebg9, hgebs10, hgebn11⟩
  refine ⟨_, rfl, ?_⟩
  have hsz12 := Keep.size hk8
  replace hK0 := Keep.tr hK0 (Keep.ofNone hk8); have hzhK0 := Keep.size hK0
  have hbg9lt := hbg9.lt
  have hbs10lt := hbs10.lt
  have hbn11lt := hbn11.lt
  refine OI_call { callee := (Callee.value (Operand.func 20)), args := #[(Operand.tmp 30)], argTypes := #[26] } 20 #[.func (.func 47) #[] #[.pointer (some ⟨bg9, 0, none⟩), .pointer (some ⟨bs10, 0, none⟩), .pointer (some ⟨bn11, 0, none⟩)]] (some 31) (by kernel_rfl) (by kernel_rfl) (by kernel_rfl) (told_nil bg9 bs10 bn11 0 a _ hbg9) ?_
  rintro _ w13 ⟨Ak15, capk15, Av15, capv15, rfl, hAk15, hAv15, hk14, owAk15, owAv15⟩
  refine ⟨_, rfl, ?_⟩
  have hsz16 := Keep.size hk14
  replace hbg9 := hbg9.keep hk14 (fun f => f)
  have hbg9lt := hbg9.lt
  replace hbs10 := hbs10.keep hk14 (fun f => f)
  have hbs10lt := hbs10.lt
  replace hbn11 := hbn11.keep hk14 (fun f => f)
  have hbn11lt := hbn11.lt
  replace hK0 := Keep.tr hK0 (Keep.ofNone hk14); have hzhK0 := Keep.size hK0
  replace hAk15 : SlT w13 1 intc Ak15 capk15 ([] : List Int) := hAk15
  have ltAk15 := SlT.lt hAk15
  replace hAv15 : SlT w13 1 intc Av15 capv15 ([] : List Int) := hAv15
  have ltAv15 := SlT.lt hAv15
  refine OI_static 11 [(0, .int .i64 a), (1, .int .i64 b), (5, .pointer none), (7, .bool false), (8, .slice Ak15 0 capk15)] (by kernel_rfl) ?_
  refine OI_end rfl ?_
  refine X_then ?_
  refine V_seq ?_
  refine V_region ?_
  refine OI_static 2 [(0, .int .i64 a), (1, .int .i64 b), (5, .pointer none), (7, .bool false), (8, .slice Ak15 0 capk15), (36, .pointer none), (37, .int .i64 b)] (by kernel_rfl) ?_
  refine OI_call { callee := (Callee.value (Operand.func 13)), args := #[(Operand.tmp 36), (Operand.tmp 37)], argTypes := #[22, 3] } 13 #[.pointer none, .int .i64 b] (some 38) (by kernel_rfl) (by kernel_rfl) (by kernel_rfl) (column_spec _ rfl b _) ?_
  rintro _ w17 ⟨bg19, bs20, bn21, rfl, hbg19, hbs20, hbn21, hk18, hgebg19, hgebs20, hgebn21⟩
  refine ⟨_, rfl, ?_⟩
  have hsz22 := Keep.size hk18
  replace hbg9 := hbg9.keep hk18 (fun f => f)
  have hbg9lt := hbg9.lt
  replace hbs10 := hbs10.keep hk18 (fun f => f)
  have hbs10lt := hbs10.lt
  replace hbn11 := hbn11.keep hk18 (fun f => f)
  have hbn11lt := hbn11.lt
  replace hAk15 := SlT.keep0 hAk15 hk18
  replace hAv15 := SlT.keep0 hAv15 hk18
  replace hK0 := Keep.tr hK0 (Keep.ofNone hk18); have hzhK0 := Keep.size hK0
  have hbg19lt := hbg19.lt
  have hbs20lt := hbs20.lt
  have hbn21lt := hbn21.lt
  refine OI_call { callee := (Callee.value (Operand.func 20)), args := #[(Operand.tmp 38)], argTypes := #[26] } 20 #[.func (.func 47) #[] #[.pointer (some ⟨bg19, 0, none⟩), .pointer (some ⟨bs20, 0, none⟩), .pointer (some ⟨bn21, 0, none⟩)]] (some 39) (by kernel_rfl) (by kernel_rfl) (by kernel_rfl) (told_nil bg19 bs20 bn21 1 b _ hbg19) ?_
  rintro _ w23 ⟨Ak25, capk25, Av25, capv25, rfl, hAk25, hAv25, hk24, owAk25, owAv25⟩
  refine ⟨_, rfl, ?_⟩
  have hsz26 := Keep.size hk24
  replace hbg9 := hbg9.keep hk24 (fun f => f)
  have hbg9lt := hbg9.lt
  replace hbs10 := hbs10.keep hk24 (fun f => f)
  have hbs10lt := hbs10.lt
  replace hbn11 := hbn11.keep hk24 (fun f => f)
  have hbn11lt := hbn11.lt
  replace hbg19 := hbg19.keep hk24 (fun f => f)
  have hbg19lt := hbg19.lt
  replace hbs20 := hbs20.keep hk24 (fun f => f)
  have hbs20lt := hbs20.lt
  replace hbn21 := hbn21.keep hk24 (fun f => f)
  have hbn21lt := hbn21.lt
  replace hAk15 := SlT.keep0 hAk15 hk24
  replace hAv15 := SlT.keep0 hAv15 hk24
  replace hK0 := Keep.tr hK0 (Keep.ofNone hk24); have hzhK0 := Keep.size hK0
  replace hAk25 : SlT w23 1 intc Ak25 capk25 ([] : List Int) := hAk25
  have ltAk25 := SlT.lt hAk25
  replace hAv25 : SlT w23 1 intc Av25 capv25 ([] : List Int) := hAv25
  have ltAv25 := SlT.lt hAv25
  refine OI_static 11 [(0, .int .i64 a), (1, .int .i64 b), (5, .pointer none), (7, .bool false), (8, .slice Ak15 0 capk15), (11, .slice Ak25 0 capk25)] (by kernel_rfl) ?_
  refine OI_end rfl ?_
  refine X_then ?_
  refine V_seq ?_
  refine V_region ?_
  refine OI_static 1 [(0, .int .i64 a), (1, .int .i64 b), (5, .pointer none), (7, .bool false), (8, .slice Ak15 0 capk15), (11, .slice Ak25 0 capk25), (44, .pointer none)] (by kernel_rfl) ?_
  refine OI_call { callee := (Callee.value (Operand.func 23)), args := #[(Operand.tmp 44)], argTypes := #[22] } 23 #[.pointer none] (some 45) (by kernel_rfl) (by kernel_rfl) (by kernel_rfl) (cells_nil _) ?_
  rintro _ w27 ⟨rfl, hk28⟩
  refine ⟨_, rfl, ?_⟩
  have hsz29 := Keep.size hk28
  replace hbg9 := hbg9.keep hk28 (fun f => f)
  have hbg9lt := hbg9.lt
  replace hbs10 := hbs10.keep hk28 (fun f => f)
  have hbs10lt := hbs10.lt
  replace hbn11 := hbn11.keep hk28 (fun f => f)
  have hbn11lt := hbn11.lt
  replace hbg19 := hbg19.keep hk28 (fun f => f)
  have hbg19lt := hbg19.lt
  replace hbs20 := hbs20.keep hk28 (fun f => f)
  have hbs20lt := hbs20.lt
  replace hbn21 := hbn21.keep hk28 (fun f => f)
  have hbn21lt := hbn21.lt
  replace hAk15 := SlT.keep0 hAk15 hk28
  replace hAv15 := SlT.keep0 hAv15 hk28
  replace hAk25 := SlT.keep0 hAk25 hk28
  replace hAv25 := SlT.keep0 hAv25 hk28
  replace hK0 := Keep.tr hK0 (Keep.ofNone hk28); have hzhK0 := Keep.size hK0
  refine OI_static 7 [(0, .int .i64 a), (1, .int .i64 b), (5, .pointer none), (7, .bool false), (8, .slice Ak15 0 capk15), (11, .slice Ak25 0 capk25), (14, .slice none 0 0)] (by kernel_rfl) ?_
  refine OI_end rfl ?_
  refine X_then ?_
  refine V_seq ?_
  refine V_region ?_
  refine OI_static 6 [(5, .pointer none), (8, .slice Ak15 0 capk15), (11, .slice Ak25 0 capk25), (14, .slice none 0 0), (50, .bool true), (51, .pointer none), (52, .int .i64 a), (53, .int .i64 b)] (by kernel_rfl) ?_
  refine OI_call { callee := (Callee.value (Operand.func 19)), args := #[(Operand.tmp 51), (Operand.tmp 52), (Operand.tmp 53)], argTypes := #[22, 3, 3] } 19 #[.pointer none, .int .i64 a, .int .i64 b] (some 54) (by kernel_rfl) (by kernel_rfl) (by kernel_rfl) (del_nil a b _) ?_
  rintro _ w30 ⟨rfl, hk31⟩
  refine ⟨_, rfl, ?_⟩
  have hsz32 := Keep.size hk31
  replace hbg9 := hbg9.keep hk31 (fun f => f)
  have hbg9lt := hbg9.lt
  replace hbs10 := hbs10.keep hk31 (fun f => f)
  have hbs10lt := hbs10.lt
  replace hbn11 := hbn11.keep hk31 (fun f => f)
  have hbn11lt := hbn11.lt
  replace hbg19 := hbg19.keep hk31 (fun f => f)
  have hbg19lt := hbg19.lt
  replace hbs20 := hbs20.keep hk31 (fun f => f)
  have hbs20lt := hbs20.lt
  replace hbn21 := hbn21.keep hk31 (fun f => f)
  have hbn21lt := hbn21.lt
  replace hAk15 := SlT.keep0 hAk15 hk31
  replace hAv15 := SlT.keep0 hAv15 hk31
  replace hAk25 := SlT.keep0 hAk25 hk31
  replace hAv25 := SlT.keep0 hAv25 hk31
  replace hK0 := Keep.tr hK0 (Keep.ofNone hk31); have hzhK0 := Keep.size hK0
  refine OI_static 11 [(8, .slice Ak15 0 capk15), (11, .slice Ak25 0 capk25), (14, .slice none 0 0), (57, .bool true), (58, .pointer none)] (by kernel_rfl) ?_
  refine OI_call { callee := (Callee.value (Operand.func 21)), args := #[(Operand.tmp 58)], argTypes := #[22] } 21 #[.pointer none] (some 59) (by kernel_rfl) (by kernel_rfl) (by kernel_rfl) (len_nil _) ?_
  rintro _ w30 ⟨rfl, rfl⟩
  refine ⟨_, rfl, ?_⟩
  refine OI_static 24 [(71, .bool true)] (by kernel_rfl) ?_
  refine OI_call { callee := (Callee.value (Operand.func 14)), args := #[], argTypes := #[] } 14 #[] (some 72) (by kernel_rfl) (by kernel_rfl) (by kernel_rfl) (known_spec _) ?_
  rintro _ w36 ⟨rfl, hk37⟩
  refine ⟨_, rfl, ?_⟩
  have hsz38 := Keep.size hk37
  replace hbg9 := hbg9.keep hk37 (fun f => f)
  have hbg9lt := hbg9.lt
  replace hbs10 := hbs10.keep hk37 (fun f => f)
  have hbs10lt := hbs10.lt
  replace hbn11 := hbn11.keep hk37 (fun f => f)
  have hbn11lt := hbn11.lt
  replace hbg19 := hbg19.keep hk37 (fun f => f)
  have hbg19lt := hbg19.lt
  replace hbs20 := hbs20.keep hk37 (fun f => f)
  have hbs20lt := hbs20.lt
  replace hbn21 := hbn21.keep hk37 (fun f => f)
  have hbn21lt := hbn21.lt
  replace hAk15 := SlT.keep0 hAk15 hk37
  replace hAv15 := SlT.keep0 hAv15 hk37
  replace hAk25 := SlT.keep0 hAk25 hk37
  replace hAv25 := SlT.keep0 hAv25 hk37
  replace hK0 := Keep.tr hK0 (Keep.ofNone hk37); have hzhK0 := Keep.size hK0
  refine OI_static 27 [(4, .bool true)] (by kernel_rfl) ?_
  refine OI_end rfl ?_
  refine X_then ?_
  refine V_ret ?_
  exact X_return (.bool true) rfl ⟨rfl, hK0⟩
end Go.Al
