/-
  Walks of the laws of grid: a known column; a nil grid.
-/
import Derived.Test.YtijhhcnahepdlaaGr9
namespace Go.Al
open Go Go.RowKit Go.Proofs
theorem known_spec (w : World) : Calls Try.prog 14 #[] w fun e w' => e = .returned (.bool true) ∧ Keep none_ w w' := by
  have hK0 : Keep none_ w w := Keep.refl _ _
  have hzhK0 := Keep.size hK0
  refine enterV Try.func14 rfl [] 55 rfl rfl rfl ?_
  refine V_pick [] rfl ?_
  refine V_seq ?_
  refine V_region ?_
  refine OI_static 1 [] (by kernel_rfl) ?_
  refine OI_end rfl ?_
  refine X_then ?_
  refine V_seq ?_
  refine V_region ?_
  refine OI_call { callee := (Callee.value (Operand.func 10)), args := #[], argTypes := #[] } 10 #[] (some 5) (by kernel_rfl) (by kernel_rfl) (by kernel_rfl) (new_grd _) ?_
  rintro _ w3 ⟨g5, F6, rfl, ho7, hk4, hge8⟩
  refine ⟨_, rfl, ?_⟩
  replace hK0 := Keep.tr hK0 (Keep.ofNone hk4); have hzhK0 := Keep.size hK0
  have own9 : ∀ q, F6 q → w.heap.size ≤ q := fun q hq => by have h1 := hge8 q hq; omega
  have lt10 := Grd.lt ho7
  have hg5lt : g5 < w3.heap.size := Grd.lt ho7 _ (Grd.at_ ho7)
  have hg5ge := hge8 _ (Grd.at_ ho7)
  refine OI_static 2 [(1, .pointer (some ⟨g5, 0, none⟩))] (by kernel_rfl) ?_
  refine OI_end rfl ?_
  refine X_then ?_
  refine V_seq ?_
  refine V_seq ?_
  refine V_region ?_
  refine OI_static 2 [(1, .pointer (some ⟨g5, 0, none⟩)), (7, .bool false)] (by kernel_rfl) ?_
  refine OI_end rfl ?_
  refine X_then ?_
  refine V_false rfl ?_
  refine V_skip ?_
  refine X_then ?_
  refine V_seq ?_
  refine V_region ?_
  refine OI_static 1 [(1, .pointer (some ⟨g5, 0, none⟩)), (8, .pointer (some ⟨g5, 0, none⟩))] (by kernel_rfl) ?_
  have hs13 : setC 5 1 7 ([] : List Ci) = [⟨5, 1, 7⟩] := by simp [setC, ltC]
  refine OI_call { callee := (Callee.value (Operand.func 11)), args := #[(Operand.tmp 8), (Operand.const (Value.int IntKind.i64 5)), (Operand.const (Value.int IntKind.i64 1)), (Operand.const (Value.int IntKind.i64 7))], argTypes := #[22, 3, 3, 3] } 11 #[.pointer (some ⟨g5, 0, none⟩), .int .i64 5, .int .i64 1, .int .i64 7] (some 9) (by kernel_rfl) (by kernel_rfl) (by kernel_rfl) (set_grd F6 g5 ([] : List Ci) 5 1 7 _ ho7 (by simp)) ?_
  rintro _ w14 ⟨rfl, ⟨F16, ho17, hfr18⟩, hk15⟩
  refine ⟨_, rfl, ?_⟩
  replace hK0 := Keep.fresh hK0 hk15 (by intro i hi hs; first | exact hs | (exfalso; have h1 := own9 i hs; have h2 := lt10 i hs; omega) | (have h1 := own9 i hs; have h2 := lt10 i hs; show _ ∨ _; omega)); have hzhK0 := Keep.size hK0
  rw [hs13] at ho17
  have own19 : ∀ q, F16 q → w.heap.size ≤ q := fun q hq => by rcases hfr18 q hq with h | h; (have h1 := own9 q h; have h2 := lt10 q h; omega); omega
  have lt20 := Grd.lt ho17
  refine OI_end rfl ?_
  refine X_then ?_
  refine V_seq ?_
  refine V_region ?_
  refine OI_static 1 [(1, .pointer (some ⟨g5, 0, none⟩)), (10, .pointer (some ⟨g5, 0, none⟩))] (by kernel_rfl) ?_
  have hs23 : setC 2 1 8 [⟨5, 1, 7⟩] = [⟨2, 1, 8⟩, ⟨5, 1, 7⟩] := by simp [setC, ltC]
  refine OI_call { callee := (Callee.value (Operand.func 11)), args := #[(Operand.tmp 10), (Operand.const (Value.int IntKind.i64 2)), (Operand.const (Value.int IntKind.i64 1)), (Operand.const (Value.int IntKind.i64 8))], argTypes := #[22, 3, 3, 3] } 11 #[.pointer (some ⟨g5, 0, none⟩), .int .i64 2, .int .i64 1, .int .i64 8] (some 11) (by kernel_rfl) (by kernel_rfl) (by kernel_rfl) (set_grd F16 g5 [⟨5, 1, 7⟩] 2 1 8 _ ho17 (by simp)) ?_
  rintro _ w24 ⟨rfl, ⟨F26, ho27, hfr28⟩, hk25⟩
  refine ⟨_, rfl, ?_⟩
  replace hK0 := Keep.fresh hK0 hk25 (by intro i hi hs; first | exact hs | (exfalso; have h1 := own19 i hs; have h2 := lt20 i hs; omega) | (have h1 := own19 i hs; have h2 := lt20 i hs; show _ ∨ _; omega)); have hzhK0 := Keep.size hK0
  rw [hs23] at ho27
  have own29 : ∀ q, F26 q → w.heap.size ≤ q := fun q hq => by rcases hfr28 q hq with h | h; (have h1 := own19 q h; have h2 := lt20 q h; omega); omega
  have lt30 := Grd.lt ho27
  refine OI_end rfl ?_
  refine X_then ?_
  refine V_seq ?_
  refine V_region ?_
  refine OI_static 1 [(1, .pointer (some ⟨g5, 0, none⟩)), (12, .pointer (some ⟨g5, 0, none⟩))] (by kernel_rfl) ?_
  have hs33 : setC 2 3 9 [⟨2, 1, 8⟩, ⟨5, 1, 7⟩] = [⟨2, 1, 8⟩, ⟨2, 3, 9⟩, ⟨5, 1, 7⟩] := by simp [setC, ltC]
  refine OI_call { callee := (Callee.value (Operand.func 11)), args := #[(Operand.tmp 12), (Operand.const (Value.int IntKind.i64 2)), (Operand.const (Value.int IntKind.i64 3)), (Operand.const (Value.int IntKind.i64 9))], argTypes := #[22, 3, 3, 3] } 11 #[.pointer (some ⟨g5, 0, none⟩), .int .i64 2, .int .i64 3, .int .i64 9] (some 13) (by kernel_rfl) (by kernel_rfl) (by kernel_rfl) (set_grd F26 g5 [⟨2, 1, 8⟩, ⟨5, 1, 7⟩] 2 3 9 _ ho27 (by simp)) ?_
  rintro _ w34 ⟨rfl, ⟨F36, ho37, hfr38⟩, hk35⟩
  refine ⟨_, rfl, ?_⟩
  replace hK0 := Keep.fresh hK0 hk35 (by intro i hi hs; first | exact hs | (exfalso; have h1 := own29 i hs; have h2 := lt30 i hs; omega) | (have h1 := own29 i hs; have h2 := lt30 i hs; show _ ∨ _; omega)); have hzhK0 := Keep.size hK0
  rw [hs33] at ho37
  have own39 : ∀ q, F36 q → w.heap.size ≤ q := fun q hq => by rcases hfr38 q hq with h | h; (have h1 := own29 q h; have h2 := lt30 q h; omega); omega
  have lt40 := Grd.lt ho37
  refine OI_end rfl ?_
  refine X_then ?_
  refine V_seq ?_
  refine V_region ?_
  refine OI_static 1 [(1, .pointer (some ⟨g5, 0, none⟩)), (15, .pointer (some ⟨g5, 0, none⟩))] (by kernel_rfl) ?_
  refine OI_call { callee := (Callee.value (Operand.func 13)), args := #[(Operand.tmp 15), (Operand.const (Value.int IntKind.i64 1))], argTypes := #[22, 3] } 13 #[.pointer (some ⟨g5, 0, none⟩), .int .i64 1] (some 16) (by kernel_rfl) (by kernel_rfl) (by kernel_rfl) (column_spec _ rfl 1 _) ?_
  rintro _ w41 ⟨bg43, bs44, bn45, rfl, hbg43, hbs44, hbn45, hk42, hgebg43, hgebs44, hgebn45⟩
  refine ⟨_, rfl, ?_⟩
  replace hK0 := Keep.tr hK0 (Keep.ofNone hk42); have hzhK0 := Keep.size hK0
  replace ho37 := Grd.keep ho37 hk42 (fun _ _ f => f)
  have hbg43lt := hbg43.lt
  have hbs44lt := hbs44.lt
  have hbn45lt := hbn45.lt
  refine OI_call { callee := (Callee.value (Operand.func 20)), args := #[(Operand.tmp 16)], argTypes := #[26] } 20 #[.func (.func 47) #[] #[.pointer (some ⟨bg43, 0, none⟩), .pointer (some ⟨bs44, 0, none⟩), .pointer (some ⟨bn45, 0, none⟩)]] (some 17) (by kernel_rfl) (by kernel_rfl) (by kernel_rfl) (told_col F36 g5 [⟨2, 1, 8⟩, ⟨2, 3, 9⟩, ⟨5, 1, 7⟩] 1 bg43 bs44 bn45 [(2, 8), (5, 7)] _ (by decide) ho37 hbg43 hbs44 hbn45 (by simp)) ?_
  rintro _ w46 ⟨Ak48, capk48, Av48, capv48, rfl, hAk48, hAv48, hk47, owAk48, owAv48⟩
  refine ⟨_, rfl, ?_⟩
  replace hbg43 := hbg43.keep hk47 (fun f => f)
  have hbg43lt := hbg43.lt
  replace hbs44 := hbs44.keep hk47 (fun f => f)
  have hbs44lt := hbs44.lt
  replace hbn45 := hbn45.keep hk47 (fun f => f)
  have hbn45lt := hbn45.lt
  replace hK0 := Keep.tr hK0 (Keep.ofNone hk47); have hzhK0 := Keep.size hK0
  replace ho37 := Grd.keep ho37 hk47 (fun _ _ f => f)
  replace hAk48 : SlT w46 1 intc Ak48 capk48 [2, 5] := hAk48
  have ltAk48 := SlT.lt hAk48
  replace hAv48 : SlT w46 1 intc Av48 capv48 [8, 7] := hAv48
  have ltAv48 := SlT.lt hAv48
  refine OI_static 10 [(1, .pointer (some ⟨g5, 0, none⟩)), (2, .slice Ak48 2 capk48), (3, .slice Av48 2 capv48), (4, .bool true)] (by kernel_rfl) ?_
  refine OI_end rfl ?_
  refine X_then ?_
  refine V_seq ?_
  refine V_region ?_
  refine OI_static 13 [(1, .pointer (some ⟨g5, 0, none⟩)), (2, .slice Ak48 2 capk48), (3, .slice Av48 2 capv48), (32, .bool true), (33, .slice Ak48 2 capk48)] (by kernel_rfl) ?_
  obtain ⟨b49, o49, L49, T49, rfl, hat49⟩ := SlT.open_ hAk48 (by first | omega | simp | (simp; omega))
  have hb49lt := hat49.blk.lt
  refine OI_pure (some 34) (.indexAddr 30 (.tmp 33) (.const (Value.int IntKind.i64 0))) (by kernel_rfl) (pure_idxN (b := b49) (o := o49) (len := 2) (cap := capk48) (kd := .i64) (j := 0) (E := 3) (sz := 1) (by_ := 8) (by kernel_rfl) (by kernel_rfl) (by kernel_rfl) (by omega)) ?_
  refine OI_cell 3 (.tmp 34) (o49 + 0 * 1) (.int .i64 2) (some 35) (by kernel_rfl) (by kernel_rfl) hat49.blk (m := 1) (by kernel_rfl) (At.cell0 hat49 (es_at (rfl : ([2, 5] : List Int)[0]? = some 2)) rfl) ?_
  refine OI_static 19 [(1, .pointer (some ⟨g5, 0, none⟩)), (2, .slice (some ⟨b49, o49, none⟩) 2 capk48), (38, .bool true), (39, .slice Av48 2 capv48)] (by kernel_rfl) ?_
  obtain ⟨b50, o50, L50, T50, rfl, hat50⟩ := SlT.open_ hAv48 (by first | omega | simp | (simp; omega))
  have hb50lt := hat50.blk.lt
  refine OI_pure (some 40) (.indexAddr 30 (.tmp 39) (.const (Value.int IntKind.i64 0))) (by kernel_rfl) (pure_idxN (b := b50) (o := o50) (len := 2) (cap := capv48) (kd := .i64) (j := 0) (E := 3) (sz := 1) (by_ := 8) (by kernel_rfl) (by kernel_rfl) (by kernel_rfl) (by omega)) ?_
  refine OI_cell 3 (.tmp 40) (o50 + 0 * 1) (.int .i64 8) (some 41) (by kernel_rfl) (by kernel_rfl) hat50.blk (m := 1) (by kernel_rfl) (At.cell0 hat50 (es_at (rfl : ([8, 7] : List Int)[0]? = some 8)) rfl) ?_
  refine OI_static 25 [(1, .pointer (some ⟨g5, 0, none⟩)), (44, .bool true), (45, .slice (some ⟨b49, o49, none⟩) 2 capk48)] (by kernel_rfl) ?_
  refine OI_pure (some 46) (.indexAddr 30 (.tmp 45) (.const (Value.int IntKind.i64 1))) (by kernel_rfl) (pure_idxN (b := b49) (o := o49) (len := 2) (cap := capk48) (kd := .i64) (j := 1) (E := 3) (sz := 1) (by_ := 8) (by kernel_rfl) (by kernel_rfl) (by kernel_rfl) (by omega)) ?_
  refine OI_cell 3 (.tmp 46) (o49 + 1 * 1) (.int .i64 5) (some 47) (by kernel_rfl) (by kernel_rfl) hat49.blk (m := 1) (by kernel_rfl) (At.cell0 hat49 (es_at (rfl : ([2, 5] : List Int)[1]? = some 5)) rfl) ?_
  refine OI_static 31 [(50, .bool true), (51, .pointer (some ⟨g5, 0, none⟩))] (by kernel_rfl) ?_
  refine OI_call { callee := (Callee.value (Operand.func 21)), args := #[(Operand.tmp 51)], argTypes := #[22] } 21 #[.pointer (some ⟨g5, 0, none⟩)] (some 52) (by kernel_rfl) (by kernel_rfl) (by kernel_rfl) (len_spec F36 g5 [⟨2, 1, 8⟩, ⟨2, 3, 9⟩, ⟨5, 1, 7⟩] _ (Grd.gr ho37)) ?_
  rintro _ w46 ⟨rfl, rfl⟩
  refine ⟨_, rfl, ?_⟩
  refine OI_static 35 [(0, .bool true)] (by kernel_rfl) ?_
  refine OI_end rfl ?_
  refine X_then ?_
  refine V_ret ?_
  exact X_return (.bool true) rfl ⟨rfl, hK0⟩

theorem walk_GridOfNothing (a b : Int) (w : World) : Calls Try.prog 9 #[.int .i64 a, .int .i64 b] w fun e w' => e = .returned (.bool true) ∧ Keep none_ w w' := by
  have hK0 : Keep none_ w w := Keep.refl _ _
  have hzhK0 := Keep.size hK0
  refine enterV Try.func9 rfl [.int .i64 a, .int .i64 b] 74 rfl rfl rfl ?_
  refine V_pick [(0, .int .i64 a), (1, .int .i64 b)] rfl ?_
  refine V_seq ?_
  refine V_region ?_
  refine OI_static 1 [(0, .int .i64 a), (1, .int .i64 b)] (by kernel_rfl) ?_
  refine OI_end rfl ?_
  refine X_then ?_
  refine V_seq ?_
  refine V_region ?_
  refine OI_static 1 [(0, .int .i64 a), (1, .int .i64 b), (5, .pointer none)] (by kernel_rfl) ?_
  refine OI_end rfl ?_
  refine X_then ?_
  refine V_seq ?_
  refine V_region ?_
  refine OI_static 3 [(0, .int .i64 a), (1, .int .i64 b), (5, .pointer none), (16, .pointer none), (17, .int .i64 a), (18, .int .i64 b)] (by kernel_rfl) ?_
  refine OI_call { callee := (Callee.value (Operand.func 11)), args := #[(Operand.tmp 16), (Operand.tmp 17), (Operand.tmp 18), (Operand.const (Value.int IntKind.i64 5))], argTypes := #[22, 3, 3, 3] } 11 #[.pointer none, .int .i64 a, .int .i64 b, .int .i64 5] (some 19) (by kernel_rfl) (by kernel_rfl) (by kernel_rfl) (set_nil a b 5 _) ?_
  rintro _ w1 ⟨rfl, hk2⟩
  refine ⟨_, rfl, ?_⟩
  replace hK0 := Keep.tr hK0 (Keep.ofNone hk2); have hzhK0 := Keep.size hK0
  refine OI_end rfl ?_
  refine X_then ?_
  refine V_seq ?_
  refine V_region ?_
  refine OI_static 3 [(0, .int .i64 a), (1, .int .i64 b), (5, .pointer none), (21, .pointer none), (22, .int .i64 a), (23, .int .i64 b)] (by kernel_rfl) ?_
  refine OI_call { callee := (Callee.value (Operand.func 28)), args := #[(Operand.tmp 21), (Operand.tmp 22), (Operand.tmp 23)], argTypes := #[22, 3, 3] } 28 #[.pointer none, .int .i64 a, .int .i64 b] (some 24) (by kernel_rfl) (by kernel_rfl) (by kernel_rfl) (get_nil a b _) ?_
  rintro _ w3 ⟨rfl, hk4⟩
  refine ⟨_, rfl, ?_⟩
  replace hK0 := Keep.tr hK0 (Keep.ofNone hk4); have hzhK0 := Keep.size hK0
  refine OI_static 9 [(0, .int .i64 a), (1, .int .i64 b), (5, .pointer none), (7, .bool false)] (by kernel_rfl) ?_
  refine OI_end rfl ?_
  refine X_then ?_
  refine V_seq ?_
  refine V_region ?_
  refine OI_static 2 [(0, .int .i64 a), (1, .int .i64 b), (5, .pointer none), (7, .bool false), (28, .pointer none), (29, .int .i64 a)] (by kernel_rfl) ?_
  refine OI_call { callee := (Callee.value (Operand.func 12)), args := #[(Operand.tmp 28), (Operand.tmp 29)], argTypes := #[22, 3] } 12 #[.pointer none, .int .i64 a] (some 30) (by kernel_rfl) (by kernel_rfl) (by kernel_rfl) (row_spec _ rfl a _) ?_
  rintro _ w5 ⟨bg7, bs8, bn9, rfl, hbg7, hbs8, hbn9, hk6, hgebg7, hgebs8, hgebn9⟩
  refine ⟨_, rfl, ?_⟩
  replace hK0 := Keep.tr hK0 (Keep.ofNone hk6); have hzhK0 := Keep.size hK0
  have hbg7lt := hbg7.lt
  have hbs8lt := hbs8.lt
  have hbn9lt := hbn9.lt
  refine OI_call { callee := (Callee.value (Operand.func 20)), args := #[(Operand.tmp 30)], argTypes := #[26] } 20 #[.func (.func 47) #[] #[.pointer (some ⟨bg7, 0, none⟩), .pointer (some ⟨bs8, 0, none⟩), .pointer (some ⟨bn9, 0, none⟩)]] (some 31) (by kernel_rfl) (by kernel_rfl) (by kernel_rfl) (told_nil bg7 bs8 bn9 0 a _ hbg7) ?_
  rintro _ w10 ⟨Ak12, capk12, Av12, capv12, rfl, hAk12, hAv12, hk11, owAk12, owAv12⟩
  refine ⟨_, rfl, ?_⟩
  replace hbg7 := hbg7.keep hk11 (fun f => f)
  have hbg7lt := hbg7.lt
  replace hbs8 := hbs8.keep hk11 (fun f => f)
  have hbs8lt := hbs8.lt
  replace hbn9 := hbn9.keep hk11 (fun f => f)
  have hbn9lt := hbn9.lt
  replace hK0 := Keep.tr hK0 (Keep.ofNone hk11); have hzhK0 := Keep.size hK0
  replace hAk12 : SlT w10 1 intc Ak12 capk12 ([] : List Int) := hAk12
  have ltAk12 := SlT.lt hAk12
  replace hAv12 : SlT w10 1 intc Av12 capv12 ([] : List Int) := hAv12
  have ltAv12 := SlT.lt hAv12
  refine OI_static 11 [(0, .int .i64 a), (1, .int .i64 b), (5, .pointer none), (7, .bool false), (8, .slice Ak12 0 capk12)] (by kernel_rfl) ?_
  refine OI_end rfl ?_
  refine X_then ?_
  refine V_seq ?_
  refine V_region ?_
  refine OI_static 2 [(0, .int .i64 a), (1, .int .i64 b), (5, .pointer none), (7, .bool false), (8, .slice Ak12 0 capk12), (36, .pointer none), (37, .int .i64 b)] (by kernel_rfl) ?_
  refine OI_call { callee := (Callee.value (Operand.func 13)), args := #[(Operand.tmp 36), (Operand.tmp 37)], argTypes := #[22, 3] } 13 #[.pointer none, .int .i64 b] (some 38) (by kernel_rfl) (by kernel_rfl) (by kernel_rfl) (column_spec _ rfl b _) ?_
  rintro _ w13 ⟨bg15, bs16, bn17, rfl, hbg15, hbs16, hbn17, hk14, hgebg15, hgebs16, hgebn17⟩
  refine ⟨_, rfl, ?_⟩
  replace hbg7 := hbg7.keep hk14 (fun f => f)
  have hbg7lt := hbg7.lt
  replace hbs8 := hbs8.keep hk14 (fun f => f)
  have hbs8lt := hbs8.lt
  replace hbn9 := hbn9.keep hk14 (fun f => f)
  have hbn9lt := hbn9.lt
  replace hAk12 := SlT.keep0 hAk12 hk14
  replace hAv12 := SlT.keep0 hAv12 hk14
  replace hK0 := Keep.tr hK0 (Keep.ofNone hk14); have hzhK0 := Keep.size hK0
  have hbg15lt := hbg15.lt
  have hbs16lt := hbs16.lt
  have hbn17lt := hbn17.lt
  refine OI_call { callee := (Callee.value (Operand.func 20)), args := #[(Operand.tmp 38)], argTypes := #[26] } 20 #[.func (.func 47) #[] #[.pointer (some ⟨bg15, 0, none⟩), .pointer (some ⟨bs16, 0, none⟩), .pointer (some ⟨bn17, 0, none⟩)]] (some 39) (by kernel_rfl) (by kernel_rfl) (by kernel_rfl) (told_nil bg15 bs16 bn17 1 b _ hbg15) ?_
  rintro _ w18 ⟨Ak20, capk20, Av20, capv20, rfl, hAk20, hAv20, hk19, owAk20, owAv20⟩
  refine ⟨_, rfl, ?_⟩
  replace hbg7 := hbg7.keep hk19 (fun f => f)
  have hbg7lt := hbg7.lt
  replace hbs8 := hbs8.keep hk19 (fun f => f)
  have hbs8lt := hbs8.lt
  replace hbn9 := hbn9.keep hk19 (fun f => f)
  have hbn9lt := hbn9.lt
  replace hbg15 := hbg15.keep hk19 (fun f => f)
  have hbg15lt := hbg15.lt
  replace hbs16 := hbs16.keep hk19 (fun f => f)
  have hbs16lt := hbs16.lt
  replace hbn17 := hbn17.keep hk19 (fun f => f)
  have hbn17lt := hbn17.lt
  replace hAk12 := SlT.keep0 hAk12 hk19
  replace hAv12 := SlT.keep0 hAv12 hk19
  replace hK0 := Keep.tr hK0 (Keep.ofNone hk19); have hzhK0 := Keep.size hK0
  replace hAk20 : SlT w18 1 intc Ak20 capk20 ([] : List Int) := hAk20
  have ltAk20 := SlT.lt hAk20
  replace hAv20 : SlT w18 1 intc Av20 capv20 ([] : List Int) := hAv20
  have ltAv20 := SlT.lt hAv20
  refine OI_static 11 [(0, .int .i64 a), (1, .int .i64 b), (5, .pointer none), (7, .bool false), (8, .slice Ak12 0 capk12), (11, .slice Ak20 0 capk20)] (by kernel_rfl) ?_
  refine OI_end rfl ?_
  refine X_then ?_
  refine V_seq ?_
  refine V_region ?_
  refine OI_static 1 [(0, .int .i64 a), (1, .int .i64 b), (5, .pointer none), (7, .bool false), (8, .slice Ak12 0 capk12), (11, .slice Ak20 0 capk20), (44, .pointer none)] (by kernel_rfl) ?_
  refine OI_call { callee := (Callee.value (Operand.func 23)), args := #[(Operand.tmp 44)], argTypes := #[22] } 23 #[.pointer none] (some 45) (by kernel_rfl) (by kernel_rfl) (by kernel_rfl) (cells_nil _) ?_
  rintro _ w21 ⟨rfl, hk22⟩
  refine ⟨_, rfl, ?_⟩
  replace hbg7 := hbg7.keep hk22 (fun f => f)
  have hbg7lt := hbg7.lt
  replace hbs8 := hbs8.keep hk22 (fun f => f)
  have hbs8lt := hbs8.lt
  replace hbn9 := hbn9.keep hk22 (fun f => f)
  have hbn9lt := hbn9.lt
  replace hbg15 := hbg15.keep hk22 (fun f => f)
  have hbg15lt := hbg15.lt
  replace hbs16 := hbs16.keep hk22 (fun f => f)
  have hbs16lt := hbs16.lt
  replace hbn17 := hbn17.keep hk22 (fun f => f)
  have hbn17lt := hbn17.lt
  replace hAk12 := SlT.keep0 hAk12 hk22
  replace hAv12 := SlT.keep0 hAv12 hk22
  replace hAk20 := SlT.keep0 hAk20 hk22
  replace hAv20 := SlT.keep0 hAv20 hk22
  replace hK0 := Keep.tr hK0 (Keep.ofNone hk22); have hzhK0 := Keep.size hK0
  refine OI_static 7 [(0, .int .i64 a), (1, .int .i64 b), (5, .pointer none), (7, .bool false), (8, .slice Ak12 0 capk12), (11, .slice Ak20 0 capk20), (14, .slice none 0 0)] (by kernel_rfl) ?_
  refine OI_end rfl ?_
  refine X_then ?_
  refine V_seq ?_
  refine V_region ?_
  refine OI_static 6 [(5, .pointer none), (8, .slice Ak12 0 capk12), (11, .slice Ak20 0 capk20), (14, .slice none 0 0), (50, .bool true), (51, .pointer none), (52, .int .i64 a), (53, .int .i64 b)] (by kernel_rfl) ?_
  refine OI_call { callee := (Callee.value (Operand.func 19)), args := #[(Operand.tmp 51), (Operand.tmp 52), (Operand.tmp 53)], argTypes := #[22, 3, 3] } 19 #[.pointer none, .int .i64 a, .int .i64 b] (some 54) (by kernel_rfl) (by kernel_rfl) (by kernel_rfl) (del_nil a b _) ?_
  rintro _ w23 ⟨rfl, hk24⟩
  refine ⟨_, rfl, ?_⟩
  replace hbg7 := hbg7.keep hk24 (fun f => f)
  have hbg7lt := hbg7.lt
  replace hbs8 := hbs8.keep hk24 (fun f => f)
  have hbs8lt := hbs8.lt
  replace hbn9 := hbn9.keep hk24 (fun f => f)
  have hbn9lt := hbn9.lt
  replace hbg15 := hbg15.keep hk24 (fun f => f)
  have hbg15lt := hbg15.lt
  replace hbs16 := hbs16.keep hk24 (fun f => f)
  have hbs16lt := hbs16.lt
  replace hbn17 := hbn17.keep hk24 (fun f => f)
  have hbn17lt := hbn17.lt
  replace hAk12 := SlT.keep0 hAk12 hk24
  replace hAv12 := SlT.keep0 hAv12 hk24
  replace hAk20 := SlT.keep0 hAk20 hk24
  replace hAv20 := SlT.keep0 hAv20 hk24
  replace hK0 := Keep.tr hK0 (Keep.ofNone hk24); have hzhK0 := Keep.size hK0
  refine OI_static 11 [(8, .slice Ak12 0 capk12), (11, .slice Ak20 0 capk20), (14, .slice none 0 0), (57, .bool true), (58, .pointer none)] (by kernel_rfl) ?_
  refine OI_call { callee := (Callee.value (Operand.func 21)), args := #[(Operand.tmp 58)], argTypes := #[22] } 21 #[.pointer none] (some 59) (by kernel_rfl) (by kernel_rfl) (by kernel_rfl) (len_nil _) ?_
  rintro _ w23 ⟨rfl, rfl⟩
  refine ⟨_, rfl, ?_⟩
  refine OI_static 24 [(71, .bool true)] (by kernel_rfl) ?_
  refine OI_call { callee := (Callee.value (Operand.func 14)), args := #[], argTypes := #[] } 14 #[] (some 72) (by kernel_rfl) (by kernel_rfl) (by kernel_rfl) (known_spec _) ?_
  rintro _ w28 ⟨rfl, hk29⟩
  refine ⟨_, rfl, ?_⟩
  replace hbg7 := hbg7.keep hk29 (fun f => f)
  have hbg7lt := hbg7.lt
  replace hbs8 := hbs8.keep hk29 (fun f => f)
  have hbs8lt := hbs8.lt
  replace hbn9 := hbn9.keep hk29 (fun f => f)
  have hbn9lt := hbn9.lt
  replace hbg15 := hbg15.keep hk29 (fun f => f)
  have hbg15lt := hbg15.lt
  replace hbs16 := hbs16.keep hk29 (fun f => f)
  have hbs16lt := hbs16.lt
  replace hbn17 := hbn17.keep hk29 (fun f => f)
  have hbn17lt := hbn17.lt
  replace hAk12 := SlT.keep0 hAk12 hk29
  replace hAv12 := SlT.keep0 hAv12 hk29
  replace hAk20 := SlT.keep0 hAk20 hk29
  replace hAv20 := SlT.keep0 hAv20 hk29
  replace hK0 := Keep.tr hK0 (Keep.ofNone hk29); have hzhK0 := Keep.size hK0
  refine OI_static 27 [(4, .bool true)] (by kernel_rfl) ?_
  refine OI_end rfl ?_
  refine X_then ?_
  refine V_ret ?_
  exact X_return (.bool true) rfl ⟨rfl, hK0⟩
end Go.Al
