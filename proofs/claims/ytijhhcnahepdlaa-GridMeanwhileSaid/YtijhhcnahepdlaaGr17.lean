/-
  Walks of the laws of grid: plays, rows.
-/
import Derived.Test.YtijhhcnahepdlaaGr16
namespace Go.Al
open Go Go.RowKit Go.Proofs
theorem cells_grd (F : Nat → Prop) (g : Nat) (cs : List Ci) (w : World) (h : Grd F w g cs) (hn : cs.length ≤ 1000) : Calls Try.prog 23 #[.pointer (some ⟨g, 0, none⟩)] w fun e w' => ∃ Ak capk, e = .returned (.tuple #[.slice Ak cs.length capk, .bool true]) ∧ SlT w' 3 Ci.cells Ak capk cs ∧ Keep none_ w w' ∧ (∀ q, inA Ak q → w.heap.size ≤ q) := by
  obtain ⟨_, _, _, _, A, cap, hat, _⟩ := h
  exact cells_spec g cap A cs w hat hn

set_option maxHeartbeats 2000000 in
set_option maxRecDepth 10000 in
theorem walk_GridPlays (A : Option Addr) (cap : Nat) (xs : List Ac4) (w : World) (hA0 : ArgT w 4 Ac4.cells A cap xs) (hcap : xs.length ≤ 9223372036854775807) : Calls Try.prog 6 #[.slice A xs.length cap] w fun e w' => e = .returned (.bool true) ∧ Keep none_ w w' := by
  have hA := hA0
  have hK0 : Keep none_ w w := Keep.refl _ _
  have hzhK0 := Keep.size hK0
  refine enterV Try.func6 rfl [.slice A xs.length cap] 61 rfl rfl rfl ?_
  refine V_pick [(0, .slice A xs.length cap)] rfl ?_
  refine V_seq ?_
  refine V_region ?_
  refine OI_static 1 [(0, .slice A xs.length cap)] (by kernel_rfl) ?_
  refine OI_end rfl ?_
  refine X_then ?_
  refine V_seq ?_
  refine V_seq ?_
  refine V_region ?_
  refine OI_static 3 [(0, .slice A xs.length cap), (10, .bool (decide (((xs.length : Nat) : Int) > 10000)))] (by kernel_rfl) ?_
  refine OI_end rfl ?_
  refine X_then ?_
  refine V_if (((xs.length : Nat) : Int) > 10000) (by kernel_rfl) (fun hc1 => ?_) (fun hc1 => ?_)
  · skip
    refine V_seq ?_
    refine V_region ?_
    refine OI_static 1 [(2, .bool true)] (by kernel_rfl) ?_
    refine OI_end rfl ?_
    refine X_then ?_
    refine V_ret ?_
    refine X_ret_then ?_
    exact X_return (.bool true) rfl ⟨rfl, hK0⟩
  · skip
    refine V_skip ?_
    refine X_then ?_
    refine V_seq ?_
    refine V_region ?_
    refine OI_call { callee := (Callee.value (Operand.func 10)), args := #[], argTypes := #[] } 10 #[] (some 11) (by kernel_rfl) (by kernel_rfl) (by kernel_rfl) (new_grd _) ?_
    rintro _ w4 ⟨g6, F7, rfl, ho8, hk5, hge9⟩
    refine ⟨_, rfl, ?_⟩
    have hsz10 := Keep.size hk5
    replace hA := ArgT.keep0 hA hk5
    replace hK0 := Keep.tr hK0 (Keep.ofNone hk5); have hzhK0 := Keep.size hK0
    have own11 : ∀ q, F7 q → w.heap.size ≤ q := fun q hq => by have h1 := hge9 q hq; omega
    have lt12 := Grd.lt ho8
    have hg6lt : g6 < w4.heap.size := Grd.lt ho8 _ (Grd.at_ ho8)
    have hg6ge := hge9 _ (Grd.at_ ho8)
    refine OI_static 2 [(0, .slice A xs.length cap), (11, .pointer (some ⟨g6, 0, none⟩)), (12, .agg #[.slice none 0 0])] (by kernel_rfl) ?_
    refine OI_box 49 (.tmp 12) (.agg #[.slice none 0 0]) [.slice none 0 0] (some 13) (by kernel_rfl) (by kernel_rfl) (by kernel_rfl) ?_
    intro b13 w13 e13 hb13 k13 z13
    have hsz14 := Keep.size k13
    replace hA := ArgT.keep0 hA k13
    replace hK0 := Keep.tr hK0 (Keep.ofNone k13); have hzhK0 := Keep.size hK0
    replace ho8 := Grd.keep ho8 k13 (fun _ _ f => f)
    have hb13lt := hb13.lt
    refine OI_static 5 [(0, .slice A xs.length cap), (3, .pointer (some ⟨g6, 0, none⟩)), (4, .pointer (some ⟨b13, 0, none⟩))] (by kernel_rfl) ?_
    refine OI_end rfl ?_
    refine X_then ?_
    refine V_seq ?_
    refine V_seq ?_
    refine V_region ?_
    refine OI_static 2 [(0, .slice A xs.length cap), (3, .pointer (some ⟨g6, 0, none⟩)), (4, .pointer (some ⟨b13, 0, none⟩)), (15, .bool false)] (by kernel_rfl) ?_
    refine OI_end rfl ?_
    refine X_then ?_
    refine V_false rfl ?_
    refine V_skip ?_
    refine X_then ?_
    refine V_seq ?_
    refine V_seq ?_
    refine V_region ?_
    refine OI_static 1 [(0, .slice A xs.length cap), (3, .pointer (some ⟨g6, 0, none⟩)), (4, .pointer (some ⟨b13, 0, none⟩)), (5, .int .i64 0)] (by kernel_rfl) ?_
    refine OI_end rfl ?_
    refine X_then ?_
    refine V_block ?_
    have ho15 := Rgd.nil hb13
    have hge16 : ∀ q, only b13 q → b13 ≤ q := fun q hq => Nat.le_of_eq (show q = b13 from hq).symm
    have own17 : ∀ q, (only b13) q → b13 ≤ q := fun q hq => by have h1 := hge16 q hq; omega
    have lt18 := Rgd.lt ho15
    have dis19 : ∀ q, (only b13) q → ¬ F7 q := fun q h1 h2 => by have h3 := hge16 q h1; have h4 := lt12 q h2; omega
    have hb13lt := hb13.lt
    refine V_pick [(0, .slice A xs.length cap), (3, .pointer (some ⟨g6, 0, none⟩)), (4, .pointer (some ⟨b13, 0, none⟩)), (5, .int .i64 0)] rfl ?_
    refine V_loop (fun k wI e => ∃ i : Nat, ∃ F20 : Nat → Prop, ∃ F24 : Nat → Prop, (k + i = min xs.length 100) ∧ (i ≤ 100) ∧ (Grd F20 wI g6 (bldC xs i)) ∧ (∀ q, F20 q → w.heap.size ≤ q) ∧ (∀ q, F20 q → F7 q ∨ w13.heap.size ≤ q) ∧ (Rgd F24 wI b13 (bldC xs i)) ∧ (∀ q, F24 q → b13 ≤ q) ∧ (∀ q, F24 q → (only b13) q ∨ w13.heap.size ≤ q) ∧ (∀ q, F24 q → ¬ F20 q) ∧ Keep (fun q => F7 q ∨ (only b13) q) w13 wI ∧ e = [(0, .slice A xs.length cap), (3, .pointer (some ⟨g6, 0, none⟩)), (4, .pointer (some ⟨b13, 0, none⟩)), (5, .int .i64 ((i : Nat) : Int))]) (min xs.length 100) ⟨0, F7, (only b13), by omega, by omega, ho8, (fun q hq => by have h1 := own11 q hq; have h2 := lt12 q hq; omega), fun q h => .inl h, ho15, (fun q hq => by have h1 := own17 q hq; have h2 := lt18 q hq; omega), fun q h => .inl h, dis19, Keep.refl _ _, rfl⟩ ?_
    rintro k30 w29 _ ⟨i, F20, F24, hki, hi9, ho21, own22, rel23, ho25, own26, rel27, dis28, hk31, rfl⟩
    have hsz32 := Keep.size hk31
    replace hA := ArgT.keep hA hk31 hA0 (fun k hk hs => by rcases hs with hs | hs; (have h1 := own11 k hs; have h2 := lt12 k hs; omega); (have h1 := own17 k hs; have h2 := lt18 k hs; omega))
    replace hK0 := Keep.fresh hK0 hk31 (by intro i hi hs; rcases hs with hs | hs; (have h1 := own11 i hs; have h2 := lt12 i hs; omega); (have h1 := own17 i hs; have h2 := lt18 i hs; omega)); have hzhK0 := Keep.size hK0
    have hzhk31 := Keep.size hk31
    have lt33 := Grd.lt ho21
    have hg6lt : g6 < w29.heap.size := Grd.lt ho21 _ (Grd.at_ ho21)
    have lt34 := Rgd.lt ho25
    have hb13lt : b13 < w29.heap.size := Rgd.lt ho25 _ (Rgd.at_ ho25)
    obtain ⟨hbs, hbl⟩ := bldC_ok xs i
    refine V_seq ?_
    refine V_seq ?_
    refine V_region ?_
    refine OI_static 5 [(0, .slice A xs.length cap), (3, .pointer (some ⟨g6, 0, none⟩)), (4, .pointer (some ⟨b13, 0, none⟩)), (5, .int .i64 ((i : Nat) : Int)), (20, .bool (decide (((i : Nat) : Int) < ((xs.length : Nat) : Int))))] (by kernel_rfl) ?_
    by_cases hg35 : ((i : Nat) : Int) < ((xs.length : Nat) : Int)
    · skip
      refine OI_eq [(0, .slice A xs.length cap), (3, .pointer (some ⟨g6, 0, none⟩)), (4, .pointer (some ⟨b13, 0, none⟩)), (5, .int .i64 ((i : Nat) : Int)), (20, .bool true)] (by first | simp [hg35] | rfl) ?_
      refine OI_static 8 [(0, .slice A xs.length cap), (3, .pointer (some ⟨g6, 0, none⟩)), (4, .pointer (some ⟨b13, 0, none⟩)), (5, .int .i64 ((i : Nat) : Int)), (21, .int .i64 ((i : Nat) : Int)), (22, .bool (decide (((i : Nat) : Int) < 100))), (23, .bool (decide (((i : Nat) : Int) < 100)))] (by kernel_rfl) ?_
      refine OI_end rfl ?_
      refine X_then ?_
      refine V_if (((i : Nat) : Int) < 100) (by kernel_rfl) (fun hc36 => ?_) (fun hc36 => ?_)
      · skip
        refine V_skip ?_
        refine X_then ?_
        refine V_seq ?_
        refine V_block ?_
        refine V_seq ?_
        refine V_seq ?_
        refine V_region ?_
        refine OI_static 4 [(0, .slice A xs.length cap), (3, .pointer (some ⟨g6, 0, none⟩)), (4, .pointer (some ⟨b13, 0, none⟩)), (5, .int .i64 ((i : Nat) : Int)), (21, .int .i64 ((i : Nat) : Int)), (22, .bool (decide (((i : Nat) : Int) < 100))), (26, .pointer (some ⟨g6, 0, none⟩)), (27, .pointer (some ⟨b13, 0, none⟩)), (28, .slice A xs.length cap), (29, .int .i64 ((i : Nat) : Int))] (by kernel_rfl) ?_
        obtain ⟨b37, o37, L37, rfl, hat37⟩ := ArgT.open_ hA (by first | omega | (simp only [List.length_map]; omega) | (simp; done) | (simp; omega))
        have hb37lt0 := ArgT.lt hA0 (by first | omega | (simp only [List.length_map]; omega) | (simp; done) | (simp; omega))
        have hb37lt := hat37.blk.lt
        refine OI_pure (some 30) (.indexAddr 40 (.tmp 28) (.tmp 29)) (by kernel_rfl) (pure_idxN (b := b37) (o := o37) (len := xs.length) (cap := cap) (kd := .i64) (j := i) (E := 42) (sz := 4) (by_ := 32) (by kernel_rfl) (by kernel_rfl) (by kernel_rfl) (by omega)) ?_
        obtain ⟨x38, hx39⟩ : ∃ x, xs[i]? = some x := ⟨_, List.getElem?_eq_getElem (by first | omega | (simp only [List.length_map]; omega))⟩
        refine OI_aggR 42 (.tmp 30) (o37 + i * 4) (Ac4.cells x38) (some 31) (by kernel_rfl) (by kernel_rfl) hat37.blk (m := 4) (by kernel_rfl) (AtR.elem' hat37 _ _ (es_at hx39)) (AtR.len hat37 (es_at hx39)) ?_
        refine OI_call { callee := (Callee.value (Operand.func 22)), args := #[(Operand.tmp 26), (Operand.tmp 27), (Operand.tmp 31)], argTypes := #[22, 46, 42] } 22 #[.pointer (some ⟨g6, 0, none⟩), .pointer (some ⟨b13, 0, none⟩), .agg (Ac4.cells x38).toArray] (some 32) (by kernel_rfl) (by kernel_rfl) (by kernel_rfl) (act_spec F20 F24 g6 b13 (bldC xs i) x38 _ ho21 ho25 (fun q h1 h2 => dis28 q h2 h1) (by omega)) ?_
        rintro _ w40 ⟨rfl, ⟨F42, F45, ho43, ho46, hfr44, hfr47, hdis48⟩, hk41⟩
        refine ⟨_, rfl, ?_⟩
        have hsz49 := Keep.size hk41
        replace hat37 := hat37.keep hk41 (fun hs => by rcases hs with hs | hs; (have u0 := own22 _ hs; have u1 := lt33 _ hs; omega); (have u0 := own26 _ hs; have u1 := lt34 _ hs; omega))
        have hb37lt := hat37.blk.lt
        replace hK0 := Keep.fresh hK0 hk41 (by intro i hi hs; first | exact hs | (rcases hs with hs | hs; (have u0 := own22 i hs; have u1 := lt33 i hs; omega); (have u0 := own26 i hs; have u1 := lt34 i hs; omega))); have hzhK0 := Keep.size hK0
        replace hk31 := Keep.fresh hk31 hk41 (fun i hi hs => by rcases hs with hs | hs; (rcases rel23 i hs with h | h; exact .inl h; (exfalso; omega)); (rcases rel27 i hs with h | h; exact .inr h; (exfalso; omega))); have hzhk31 := Keep.size hk31
        have own51 : ∀ q, F42 q → w.heap.size ≤ q := fun q hq => by rcases hfr44 q hq with h | h; (have h1 := own22 q h; have h2 := lt33 q h; omega); omega
        have lt50 := Grd.lt ho43
        have rel52 : ∀ q, F42 q → F7 q ∨ w13.heap.size ≤ q := fun q hq => by rcases hfr44 q hq with h | h; exact rel23 q h; exact .inr (by omega)
        have own54 : ∀ q, F45 q → b13 ≤ q := fun q hq => by rcases hfr47 q hq with h | h; (have h1 := own26 q h; have h2 := lt34 q h; omega); omega
        have lt53 := Rgd.lt ho46
        have rel55 : ∀ q, F45 q → (only b13) q ∨ w13.heap.size ≤ q := fun q hq => by rcases hfr47 q hq with h | h; exact rel27 q h; exact .inr (by omega)
        rw [bldC_step hx39] at ho43 ho46
        obtain ⟨_, hbl2⟩ := bldC_ok xs (i + 1)
        refine OI_static 8 [(0, .slice (some ⟨b37, o37, none⟩) xs.length cap), (3, .pointer (some ⟨g6, 0, none⟩)), (4, .pointer (some ⟨b13, 0, none⟩)), (5, .int .i64 ((i : Nat) : Int)), (21, .int .i64 ((i : Nat) : Int)), (22, .bool (decide (((i : Nat) : Int) < 100))), (33, .bool false)] (by kernel_rfl) ?_
        refine OI_end rfl ?_
        refine X_then ?_
        refine V_false rfl ?_
        refine V_skip ?_
        refine X_then ?_
        refine V_seq ?_
        refine V_region ?_
        refine OI_static 1 [(0, .slice (some ⟨b37, o37, none⟩) xs.length cap), (3, .pointer (some ⟨g6, 0, none⟩)), (4, .pointer (some ⟨b13, 0, none⟩)), (5, .int .i64 ((i : Nat) : Int)), (21, .int .i64 ((i : Nat) : Int)), (22, .bool (decide (((i : Nat) : Int) < 100))), (35, .pointer (some ⟨g6, 0, none⟩))] (by kernel_rfl) ?_
        refine OI_call { callee := (Callee.value (Operand.func 23)), args := #[(Operand.tmp 35)], argTypes := #[22] } 23 #[.pointer (some ⟨g6, 0, none⟩)] (some 36) (by kernel_rfl) (by kernel_rfl) (by kernel_rfl) (cells_grd F42 g6 (bldC xs (i + 1)) _ ho43 (by omega)) ?_
        rintro _ w56 ⟨K58, capK58, rfl, hAK58, hk57, owK58⟩
        refine ⟨_, rfl, ?_⟩
        have hsz59 := Keep.size hk57
        replace hat37 := hat37.keep hk57 (fun f => f)
        have hb37lt := hat37.blk.lt
        replace hK0 := Keep.tr hK0 (Keep.ofNone hk57); have hzhK0 := Keep.size hK0
        replace hk31 := Keep.tr hk31 (Keep.ofNone hk57); have hzhk31 := Keep.size hk31
        replace ho43 := Grd.keep ho43 hk57 (fun _ _ f => f)
        replace ho46 := Rgd.keep ho46 hk57 (fun _ _ f => f)
        have ltK58 := SlT.lt hAK58
        have hcp60 := ho46
        obtain ⟨_, hlen60, hFg60, hFlt60, R60, cap60, hat60, hAF60⟩ := hcp60
        have hg60 := hat60.blk
        have hA60 := hat60.sl
        have ltR60 := SlT.lt hA60
        have owR60 : ∀ q, inA R60 q → b13 ≤ q := fun q hq => by have h1 := own54 q (hAF60 q hq); have h2 := lt53 q (hAF60 q hq); omega
        refine OI_static 7 [(0, .slice (some ⟨b37, o37, none⟩) xs.length cap), (3, .pointer (some ⟨g6, 0, none⟩)), (4, .pointer (some ⟨b13, 0, none⟩)), (5, .int .i64 ((i : Nat) : Int)), (6, .slice K58 ((bldC xs (i + 1)).length) capK58), (7, .bool true), (21, .int .i64 ((i : Nat) : Int)), (22, .bool (decide (((i : Nat) : Int) < 100)))] (by kernel_rfl) ?_
        refine OI_end rfl ?_
        refine X_then ?_
        refine V_seq ?_
        refine V_draws (acts [8, 13]) none_ [[0, 1, 2, 3, 4, 5, 6, 7, 8, 9, 10, 11, 12, 13, 14, 15, 16, 17, 18, 19, 20]] (by kernel_rfl) (by repeat first | exact sure_body (by rintro _ _ ⟨h, _⟩; exact ⟨_, h⟩) | refine sure_then ?_ | refine sure_block ?_ | refine sure_join ?_) (by kernel_rfl) ?_
        intro w62 hk61 he63 L hL64
        have hsz65 := Keep.size hk61
        replace hg60 := hg60.keep hk61 (fun f => f)
        have hb13lt := hg60.lt
        replace hat37 := hat37.keep hk61 (fun f => f)
        have hb37lt := hat37.blk.lt
        replace hAK58 := SlT.keep0 hAK58 hk61
        replace hA60 := SlT.keep0 hA60 hk61
        replace hK0 := Keep.tr hK0 (Keep.ofNone hk61); have hzhK0 := Keep.size hK0
        replace hk31 := Keep.tr hk31 (Keep.ofNone hk61); have hzhk31 := Keep.size hk31
        replace ho43 := Grd.keep ho43 hk61 (fun _ _ f => f)
        replace ho46 := Rgd.keep ho46 hk61 (fun _ _ f => f)
        have qhg60 := hg60
        have qhat37 := hat37
        have K66 : Keep none_ w62 w62 := Keep.refl _ _
        obtain rfl := List.mem_singleton.1 hL64
        refine GI_static [7, 8, 9, 10, 11, 12, 13, 14, 15, 16, 17, 18, 19, 20] [(0, .slice (some ⟨b37, o37, none⟩) xs.length cap), (3, .pointer (some ⟨g6, 0, none⟩)), (4, .pointer (some ⟨b13, 0, none⟩)), (5, .int .i64 ((i : Nat) : Int)), (21, .int .i64 ((i : Nat) : Int)), (22, .bool (decide (((i : Nat) : Int) < 100))), (41, .bool false), (42, .slice K58 ((bldC xs (i + 1)).length) capK58), (43, .pointer (some ⟨b13, 0, none⟩)), (44, .pointer (some ⟨b13, 0, none⟩)), (45, .pointer (some ⟨b13, 0, none⟩))] (by kernel_rfl) ?_
        refine GI_cell 47 (.tmp 45) 0 (.slice R60 ((bldC xs (i + 1)).length) cap60) (some 46) (by kernel_rfl) (by kernel_rfl) (by kernel_rfl) qhg60 (fun f => f) (m := 1) (by kernel_rfl) rfl ?_
        refine GI_call { callee := (Callee.value (Operand.func 24)), args := #[(Operand.tmp 42), (Operand.tmp 46)], argTypes := #[47, 47] } 24 #[.slice K58 ((bldC xs (i + 1)).length) capK58, .slice R60 ((bldC xs (i + 1)).length) cap60] (some 47) (by kernel_rfl) (by kernel_rfl) (by kernel_rfl) (by kernel_rfl) (same_spec K58 R60 capK58 cap60 (bldC xs (i + 1)) _ hAK58 hA60 (by omega)) ?_
        rintro _ w67 ⟨rfl, hk68⟩
        have K69 := K66.tr (Keep.ofNone hk68)
        refine ⟨_, rfl, K69, ?_⟩
        have hzK69 := Keep.size K69
        have hsz70 := Keep.size hk68
        replace hg60 := hg60.keep hk68 (fun f => f)
        have hb13lt := hg60.lt
        replace hat37 := hat37.keep hk68 (fun f => f)
        have hb37lt := hat37.blk.lt
        replace hAK58 := SlT.keep0 hAK58 hk68
        replace hA60 := SlT.keep0 hA60 hk68
        replace hK0 := Keep.tr hK0 (Keep.ofNone hk68); have hzhK0 := Keep.size hK0
        replace hk31 := Keep.tr hk31 (Keep.ofNone hk68); have hzhk31 := Keep.size hk31
        replace ho43 := Grd.keep ho43 hk68 (fun _ _ f => f)
        replace ho46 := Rgd.keep ho46 hk68 (fun _ _ f => f)
        refine GI_static [13, 14, 15, 16, 17, 18, 19, 20] [(0, .slice (some ⟨b37, o37, none⟩) xs.length cap), (3, .pointer (some ⟨g6, 0, none⟩)), (4, .pointer (some ⟨b13, 0, none⟩)), (5, .int .i64 ((i : Nat) : Int)), (21, .int .i64 ((i : Nat) : Int)), (22, .bool (decide (((i : Nat) : Int) < 100))), (42, .slice K58 ((bldC xs (i + 1)).length) capK58), (43, .pointer (some ⟨b13, 0, none⟩)), (44, .pointer (some ⟨b13, 0, none⟩)), (45, .pointer (some ⟨b13, 0, none⟩)), (46, .slice R60 ((bldC xs (i + 1)).length) cap60), (47, .bool true), (48, .bool false), (50, .bool false), (51, .pointer (some ⟨g6, 0, none⟩))] (by kernel_rfl) ?_
        refine GI_call { callee := (Callee.value (Operand.func 21)), args := #[(Operand.tmp 51)], argTypes := #[22] } 21 #[.pointer (some ⟨g6, 0, none⟩)] (some 52) (by kernel_rfl) (by kernel_rfl) (by kernel_rfl) (by kernel_rfl) (len_spec F42 g6 (bldC xs (i + 1)) _ (Grd.gr ho43)) ?_
        rintro _ w67 ⟨rfl, rfl⟩
        refine ⟨_, rfl, K69, ?_⟩
        refine GI_static [17, 18, 19, 20] [(0, .slice (some ⟨b37, o37, none⟩) xs.length cap), (3, .pointer (some ⟨g6, 0, none⟩)), (4, .pointer (some ⟨b13, 0, none⟩)), (5, .int .i64 ((i : Nat) : Int)), (21, .int .i64 ((i : Nat) : Int)), (22, .bool (decide (((i : Nat) : Int) < 100))), (42, .slice K58 ((bldC xs (i + 1)).length) capK58), (43, .pointer (some ⟨b13, 0, none⟩)), (44, .pointer (some ⟨b13, 0, none⟩)), (45, .pointer (some ⟨b13, 0, none⟩)), (46, .slice R60 ((bldC xs (i + 1)).length) cap60), (47, .bool true), (48, .bool false), (50, .bool false), (51, .pointer (some ⟨g6, 0, none⟩)), (52, .int .i64 (((bldC xs (i + 1)).length : Nat) : Int)), (53, .pointer (some ⟨b13, 0, none⟩)), (54, .pointer (some ⟨b13, 0, none⟩)), (55, .pointer (some ⟨b13, 0, none⟩))] (by kernel_rfl) ?_
        refine GI_cell 47 (.tmp 55) 0 (.slice R60 ((bldC xs (i + 1)).length) cap60) (some 56) (by kernel_rfl) (by kernel_rfl) (by kernel_rfl) qhg60 (fun f => f) (m := 1) (by kernel_rfl) rfl ?_
        refine GI_static [] [(0, .slice (some ⟨b37, o37, none⟩) xs.length cap), (3, .pointer (some ⟨g6, 0, none⟩)), (4, .pointer (some ⟨b13, 0, none⟩)), (5, .int .i64 ((i : Nat) : Int)), (21, .int .i64 ((i : Nat) : Int)), (22, .bool (decide (((i : Nat) : Int) < 100))), (42, .slice K58 ((bldC xs (i + 1)).length) capK58), (43, .pointer (some ⟨b13, 0, none⟩)), (44, .pointer (some ⟨b13, 0, none⟩)), (45, .pointer (some ⟨b13, 0, none⟩)), (46, .slice R60 ((bldC xs (i + 1)).length) cap60), (47, .bool true), (48, .bool false), (51, .pointer (some ⟨g6, 0, none⟩)), (52, .int .i64 (((bldC xs (i + 1)).length : Nat) : Int)), (53, .pointer (some ⟨b13, 0, none⟩)), (54, .pointer (some ⟨b13, 0, none⟩)), (55, .pointer (some ⟨b13, 0, none⟩)), (56, .slice R60 ((bldC xs (i + 1)).length) cap60), (57, .int .i64 (((bldC xs (i + 1)).length : Nat) : Int)), (58, .bool (!(decide ((((bldC xs (i + 1)).length : Nat) : Int) = (((bldC xs (i + 1)).length : Nat) : Int))))), (59, .bool (!(decide ((((bldC xs (i + 1)).length : Nat) : Int) = (((bldC xs (i + 1)).length : Nat) : Int)))))] (by kernel_rfl) ?_
        refine GI_end ?_
        refine X_then ?_
        refine V_eq [(0, .slice (some ⟨b37, o37, none⟩) xs.length cap), (3, .pointer (some ⟨g6, 0, none⟩)), (4, .pointer (some ⟨b13, 0, none⟩)), (5, .int .i64 ((i : Nat) : Int)), (21, .int .i64 ((i : Nat) : Int)), (22, .bool (decide (((i : Nat) : Int) < 100))), (42, .slice K58 ((bldC xs (i + 1)).length) capK58), (43, .pointer (some ⟨b13, 0, none⟩)), (44, .pointer (some ⟨b13, 0, none⟩)), (45, .pointer (some ⟨b13, 0, none⟩)), (46, .slice R60 ((bldC xs (i + 1)).length) cap60), (47, .bool true), (48, .bool false), (51, .pointer (some ⟨g6, 0, none⟩)), (52, .int .i64 (((bldC xs (i + 1)).length : Nat) : Int)), (53, .pointer (some ⟨b13, 0, none⟩)), (54, .pointer (some ⟨b13, 0, none⟩)), (55, .pointer (some ⟨b13, 0, none⟩)), (56, .slice R60 ((bldC xs (i + 1)).length) cap60), (57, .int .i64 (((bldC xs (i + 1)).length : Nat) : Int)), (58, .bool (!(decide ((((bldC xs (i + 1)).length : Nat) : Int) = (((bldC xs (i + 1)).length : Nat) : Int))))), (59, .bool false)] (by rw [decide_eq_true (rfl : (((bldC xs (i + 1)).length : Nat) : Int) = (((bldC xs (i + 1)).length : Nat) : Int))]; rfl) ?_
        refine V_false rfl ?_
        refine V_skip ?_
        refine X_block ?_
        refine X_then ?_
        refine V_region ?_
        have hw73 : IntKind.i64.wrap (((i : Nat) : Int) + 1) = ((i + 1 : Nat) : Int) := (wrap64_id (by omega) (by omega)).trans (by omega)
        refine OI_static 2 [(0, .slice (some ⟨b37, o37, none⟩) xs.length cap), (3, .pointer (some ⟨g6, 0, none⟩)), (4, .pointer (some ⟨b13, 0, none⟩)), (21, .int .i64 ((i : Nat) : Int)), (22, .bool (decide (((i : Nat) : Int) < 100))), (25, .int .i64 (IntKind.i64.wrap (((i : Nat) : Int) + 1))), (42, .slice K58 ((bldC xs (i + 1)).length) capK58), (43, .pointer (some ⟨b13, 0, none⟩)), (44, .pointer (some ⟨b13, 0, none⟩)), (45, .pointer (some ⟨b13, 0, none⟩)), (46, .slice R60 ((bldC xs (i + 1)).length) cap60), (47, .bool true), (48, .bool false), (51, .pointer (some ⟨g6, 0, none⟩)), (52, .int .i64 (((bldC xs (i + 1)).length : Nat) : Int)), (53, .pointer (some ⟨b13, 0, none⟩)), (54, .pointer (some ⟨b13, 0, none⟩)), (55, .pointer (some ⟨b13, 0, none⟩)), (56, .slice R60 ((bldC xs (i + 1)).length) cap60), (57, .int .i64 (((bldC xs (i + 1)).length : Nat) : Int)), (58, .bool (!(decide ((((bldC xs (i + 1)).length : Nat) : Int) = (((bldC xs (i + 1)).length : Nat) : Int)))))] (by kernel_rfl) ?_
        refine OI_eq [(0, .slice (some ⟨b37, o37, none⟩) xs.length cap), (3, .pointer (some ⟨g6, 0, none⟩)), (4, .pointer (some ⟨b13, 0, none⟩)), (21, .int .i64 ((i : Nat) : Int)), (22, .bool (decide (((i : Nat) : Int) < 100))), (25, .int .i64 ((i + 1 : Nat) : Int)), (42, .slice K58 ((bldC xs (i + 1)).length) capK58), (43, .pointer (some ⟨b13, 0, none⟩)), (44, .pointer (some ⟨b13, 0, none⟩)), (45, .pointer (some ⟨b13, 0, none⟩)), (46, .slice R60 ((bldC xs (i + 1)).length) cap60), (47, .bool true), (48, .bool false), (51, .pointer (some ⟨g6, 0, none⟩)), (52, .int .i64 (((bldC xs (i + 1)).length : Nat) : Int)), (53, .pointer (some ⟨b13, 0, none⟩)), (54, .pointer (some ⟨b13, 0, none⟩)), (55, .pointer (some ⟨b13, 0, none⟩)), (56, .slice R60 ((bldC xs (i + 1)).length) cap60), (57, .int .i64 (((bldC xs (i + 1)).length : Nat) : Int)), (58, .bool (!(decide ((((bldC xs (i + 1)).length : Nat) : Int) = (((bldC xs (i + 1)).length : Nat) : Int)))))] (by rw [hw73]) ?_
        refine OI_static 3 [(0, .slice (some ⟨b37, o37, none⟩) xs.length cap), (3, .pointer (some ⟨g6, 0, none⟩)), (4, .pointer (some ⟨b13, 0, none⟩)), (5, .int .i64 ((i + 1 : Nat) : Int)), (21, .int .i64 ((i : Nat) : Int)), (22, .bool (decide (((i : Nat) : Int) < 100))), (42, .slice K58 ((bldC xs (i + 1)).length) capK58), (43, .pointer (some ⟨b13, 0, none⟩)), (44, .pointer (some ⟨b13, 0, none⟩)), (45, .pointer (some ⟨b13, 0, none⟩)), (46, .slice R60 ((bldC xs (i + 1)).length) cap60), (47, .bool true), (48, .bool false), (51, .pointer (some ⟨g6, 0, none⟩)), (52, .int .i64 (((bldC xs (i + 1)).length : Nat) : Int)), (53, .pointer (some ⟨b13, 0, none⟩)), (54, .pointer (some ⟨b13, 0, none⟩)), (55, .pointer (some ⟨b13, 0, none⟩)), (56, .slice R60 ((bldC xs (i + 1)).length) cap60), (57, .int .i64 (((bldC xs (i + 1)).length : Nat) : Int)), (58, .bool (!(decide ((((bldC xs (i + 1)).length : Nat) : Int) = (((bldC xs (i + 1)).length : Nat) : Int)))))] (by kernel_rfl) ?_
        refine OI_end rfl ?_
        exact V_again (k30 - 1) (by omega) [(0, .slice (some ⟨b37, o37, none⟩) xs.length cap), (3, .pointer (some ⟨g6, 0, none⟩)), (4, .pointer (some ⟨b13, 0, none⟩)), (5, .int .i64 ((i + 1 : Nat) : Int))] rfl ⟨i + 1, F42, F45, by omega, by omega, ho43, (fun q hq => by have h1 := own51 q hq; have h2 := lt50 q hq; omega), rel52, ho46, (fun q hq => by have h1 := own54 q hq; have h2 := lt53 q hq; omega), rel55, (fun q h1 h2 => hdis48 q h2 h1), hk31, rfl⟩
      · skip
        refine V_exit ?_
        refine X_exit_then ?_
        refine X_exit_then ?_
        refine X_exit_here ?_
        refine X_then ?_
        refine V_seq ?_
        refine V_region ?_
        refine OI_call { callee := (Callee.value (Operand.func 14)), args := #[], argTypes := #[] } 14 #[] (some 60) (by kernel_rfl) (by kernel_rfl) (by kernel_rfl) (known_spec _) ?_
        rintro _ w74 ⟨rfl, hk75⟩
        refine ⟨_, rfl, ?_⟩
        have hsz76 := Keep.size hk75
        replace hA := ArgT.keep0 hA hk75
        replace hK0 := Keep.tr hK0 (Keep.ofNone hk75); have hzhK0 := Keep.size hK0
        replace ho21 := Grd.keep ho21 hk75 (fun _ _ f => f)
        replace ho25 := Rgd.keep ho25 hk75 (fun _ _ f => f)
        refine OI_static 2 [(2, .bool true)] (by kernel_rfl) ?_
        refine OI_end rfl ?_
        refine X_then ?_
        refine V_ret ?_
        exact X_return (.bool true) rfl ⟨rfl, hK0⟩
    · skip
      refine OI_eq [(0, .slice A xs.length cap), (3, .pointer (some ⟨g6, 0, none⟩)), (4, .pointer (some ⟨b13, 0, none⟩)), (5, .int .i64 ((i : Nat) : Int)), (20, .bool false)] (by first | simp [hg35] | rfl) ?_
      refine OI_static 8 [(0, .slice A xs.length cap), (3, .pointer (some ⟨g6, 0, none⟩)), (4, .pointer (some ⟨b13, 0, none⟩)), (5, .int .i64 ((i : Nat) : Int)), (21, undef), (22, undef), (23, .bool false)] (by kernel_rfl) ?_
      refine OI_end rfl ?_
      refine X_then ?_
      refine V_false rfl ?_
      refine V_exit ?_
      refine X_exit_then ?_
      refine X_exit_then ?_
      refine X_exit_here ?_
      refine X_then ?_
      refine V_seq ?_
      refine V_region ?_
      refine OI_call { callee := (Callee.value (Operand.func 14)), args := #[], argTypes := #[] } 14 #[] (some 60) (by kernel_rfl) (by kernel_rfl) (by kernel_rfl) (known_spec _) ?_
      rintro _ w77 ⟨rfl, hk78⟩
      refine ⟨_, rfl, ?_⟩
      have hsz79 := Keep.size hk78
      replace hA := ArgT.keep0 hA hk78
      replace hK0 := Keep.tr hK0 (Keep.ofNone hk78); have hzhK0 := Keep.size hK0
      replace ho21 := Grd.keep ho21 hk78 (fun _ _ f => f)
      replace ho25 := Rgd.keep ho25 hk78 (fun _ _ f => f)
      refine OI_static 2 [(2, .bool true)] (by kernel_rfl) ?_
      refine OI_end rfl ?_
      refine X_then ?_
      refine V_ret ?_
      exact X_return (.bool true) rfl ⟨rfl, hK0⟩

theorem over_GridPlays {H : Type} {enc : TypeId × Value → H} {A : Option Addr} {len cap : Nat} {d : DataW H} {ps : List MemPlace} {w : World} (h : DataW.Trod enc Try.prog w 0 (fun _ => true) true 40 (.slice A len cap) d ps) : Calls Try.prog 6 #[.slice A len cap] w fun e w' => e = .returned (.bool true) ∧ Keep none_ w w' := by
  obtain ⟨xs, rfl, hA, hl, hc⟩ := read_elems (f := Ac4.cells) (ks := [.int .i64, .int .i64, .int .i64, .int .i64]) (n := 4) (sz := 4) lift_Ac4 Try.underlying40 (by kernel_rfl) (by kernel_rfl) rfl (by decide) h
  exact walk_GridPlays A cap xs w hA (by unfold maxLen at hc; omega)

set_option maxHeartbeats 2000000 in
set_option maxRecDepth 10000 in
theorem walk_GridRows (A : Option Addr) (cap : Nat) (xs : List Ac4) (a b : Int) (w : World) (hA0 : ArgT w 4 Ac4.cells A cap xs) (hcap : xs.length ≤ 9223372036854775807) : Calls Try.prog 7 #[.slice A xs.length cap, .int .i64 a, .int .i64 b] w fun e w' => e = .returned (.bool true) ∧ Keep none_ w w' := by
  have hA := hA0
  have hK0 : Keep none_ w w := Keep.refl _ _
  have hzhK0 := Keep.size hK0
  refine enterV Try.func7 rfl [.slice A xs.length cap, .int .i64 a, .int .i64 b] 142 rfl rfl rfl ?_
  refine V_pick [(0, .slice A xs.length cap), (1, .int .i64 a), (2, .int .i64 b)] rfl ?_
  refine V_seq ?_
  refine V_region ?_
  refine OI_static 1 [(0, .slice A xs.length cap), (1, .int .i64 a), (2, .int .i64 b)] (by kernel_rfl) ?_
  refine OI_end rfl ?_
  refine X_then ?_
  refine V_seq ?_
  refine V_seq ?_
  refine V_region ?_
  refine OI_static 3 [(0, .slice A xs.length cap), (1, .int .i64 a), (2, .int .i64 b), (21, .bool (decide (((xs.length : Nat) : Int) > 10000)))] (by kernel_rfl) ?_
  refine OI_end rfl ?_
  refine X_then ?_
  refine V_if (((xs.length : Nat) : Int) > 10000) (by kernel_rfl) (fun hc1 => ?_) (fun hc1 => ?_)
  · skip
    refine V_seq ?_
    refine V_region ?_
    refine OI_static 1 [(6, .bool true)] (by kernel_rfl) ?_
    refine OI_end rfl ?_
    refine X_then ?_
    refine V_ret ?_
    refine X_ret_then ?_
    exact X_return (.bool true) rfl ⟨rfl, hK0⟩
  · skip
    refine V_skip ?_
    refine X_then ?_
    refine V_seq ?_
    refine V_region ?_
    refine OI_static 1 [(1, .int .i64 a), (2, .int .i64 b), (23, .slice A xs.length cap)] (by kernel_rfl) ?_
    refine OI_call { callee := (Callee.value (Operand.func 25)), args := #[(Operand.tmp 23)], argTypes := #[40] } 25 #[.slice A xs.length cap] (some 24) (by kernel_rfl) (by kernel_rfl) (by kernel_rfl) (built_spec A cap xs _ hA (by omega)) ?_
    rintro _ w2 ⟨g1, F1, x1, F2, rfl, ho1, ho2, hk3, hge1, hge2, hd12⟩
    refine ⟨_, rfl, ?_⟩
    have hsz4 := Keep.size hk3
    replace hA := ArgT.keep0 hA hk3
    replace hK0 := Keep.tr hK0 (Keep.ofNone hk3); have hzhK0 := Keep.size hK0
    have own5 : ∀ q, F1 q → w.heap.size ≤ q := fun q hq => by have h1 := hge1 q hq; omega
    have lt6 := Grd.lt ho1
    have own7 : ∀ q, F2 q → w.heap.size ≤ q := fun q hq => by have h1 := hge2 q hq; omega
    have lt8 := Rgd.lt ho2
    obtain ⟨hbs, hbl⟩ := bldC_ok xs (min xs.length 100)
    have hg1lt := lt6 _ (Grd.at_ ho1)
    have hx1lt := lt8 _ (Rgd.at_ ho2)
    refine OI_static 7 [(1, .int .i64 a), (2, .int .i64 b), (7, .pointer (some ⟨g1, 0, none⟩)), (8, .pointer (some ⟨x1, 0, none⟩))] (by kernel_rfl) ?_
    refine OI_end rfl ?_
    refine X_then ?_
    refine V_seq ?_
    refine V_seq ?_
    refine V_region ?_
    refine OI_static 2 [(1, .int .i64 a), (2, .int .i64 b), (7, .pointer (some ⟨g1, 0, none⟩)), (8, .pointer (some ⟨x1, 0, none⟩)), (28, .bool false)] (by kernel_rfl) ?_
    refine OI_end rfl ?_
    refine X_then ?_
    refine V_false rfl ?_
    refine V_skip ?_
    refine X_then ?_
    refine V_seq ?_
    refine V_region ?_
    refine OI_static 2 [(1, .int .i64 a), (2, .int .i64 b), (7, .pointer (some ⟨g1, 0, none⟩)), (8, .pointer (some ⟨x1, 0, none⟩)), (30, .pointer (some ⟨g1, 0, none⟩)), (31, .int .i64 a)] (by kernel_rfl) ?_
    refine OI_call { callee := (Callee.value (Operand.func 12)), args := #[(Operand.tmp 30), (Operand.tmp 31)], argTypes := #[22, 3] } 12 #[.pointer (some ⟨g1, 0, none⟩), .int .i64 a] (some 32) (by kernel_rfl) (by kernel_rfl) (by kernel_rfl) (row_spec _ rfl a _) ?_
    rintro _ w9 ⟨bg11, bs12, bn13, rfl, hbg11, hbs12, hbn13, hk10, hgebg11, hgebs12, hgebn13⟩
    refine ⟨_, rfl, ?_⟩
    have hsz14 := Keep.size hk10
    replace hA := ArgT.keep0 hA hk10
    replace hK0 := Keep.tr hK0 (Keep.ofNone hk10); have hzhK0 := Keep.size hK0
    replace ho1 := Grd.keep ho1 hk10 (fun _ _ f => f)
    replace ho2 := Rgd.keep ho2 hk10 (fun _ _ f => f)
    have hbg11lt := hbg11.lt
    have hbs12lt := hbs12.lt
    have hbn13lt := hbn13.lt
    refine OI_call { callee := (Callee.value (Operand.func 20)), args := #[(Operand.tmp 32)], argTypes := #[26] } 20 #[.func (.func 47) #[] #[.pointer (some ⟨bg11, 0, none⟩), .pointer (some ⟨bs12, 0, none⟩), .pointer (some ⟨bn13, 0, none⟩)]] (some 33) (by kernel_rfl) (by kernel_rfl) (by kernel_rfl) (told_row F1 g1 (bldC xs (min xs.length 100)) a bg11 bs12 bn13 ((((bldC xs (min xs.length 100))).filter (fun c : Ci => c.a == a)).map (fun c : Ci => (c.b, c.v))) _ rfl ho1 hbg11 hbs12 hbn13 (by omega)) ?_
    rintro _ w15 ⟨Ak17, capk17, Av17, capv17, rfl, hAk17, hAv17, hk16, owAk17, owAv17⟩
    refine ⟨_, rfl, ?_⟩
    have hsz18 := Keep.size hk16
    replace hbg11 := hbg11.keep hk16 (fun f => f)
    have hbg11lt := hbg11.lt
    replace hbs12 := hbs12.keep hk16 (fun f => f)
    have hbs12lt := hbs12.lt
    replace hbn13 := hbn13.keep hk16 (fun f => f)
    have hbn13lt := hbn13.lt
    replace hA := ArgT.keep0 hA hk16
    replace hK0 := Keep.tr hK0 (Keep.ofNone hk16); have hzhK0 := Keep.size hK0
    replace ho1 := Grd.keep ho1 hk16 (fun _ _ f => f)
    replace ho2 := Rgd.keep ho2 hk16 (fun _ _ f => f)
    have ltAk17 := SlT.lt hAk17
    have ltAv17 := SlT.lt hAv17
    refine OI_static 11 [(1, .int .i64 a), (2, .int .i64 b), (7, .pointer (some ⟨g1, 0, none⟩)), (8, .pointer (some ⟨x1, 0, none⟩)), (9, .slice Ak17 (((((bldC xs (min xs.length 100))).filter (fun c : Ci => c.a == a)).map (fun c : Ci => (c.b, c.v))).length) capk17), (10, .slice Av17 (((((bldC xs (min xs.length 100))).filter (fun c : Ci => c.a == a)).map (fun c : Ci => (c.b, c.v))).length) capv17), (11, .bool true)] (by kernel_rfl) ?_
    refine OI_end rfl ?_
    refine X_then ?_
    refine V_seq ?_
    refine V_region ?_
    refine OI_static 2 [(1, .int .i64 a), (2, .int .i64 b), (8, .pointer (some ⟨x1, 0, none⟩)), (9, .slice Ak17 (((((bldC xs (min xs.length 100))).filter (fun c : Ci => c.a == a)).map (fun c : Ci => (c.b, c.v))).length) capk17), (10, .slice Av17 (((((bldC xs (min xs.length 100))).filter (fun c : Ci => c.a == a)).map (fun c : Ci => (c.b, c.v))).length) capv17), (11, .bool true), (38, .pointer (some ⟨g1, 0, none⟩)), (39, .int .i64 b)] (by kernel_rfl) ?_
    refine OI_call { callee := (Callee.value (Operand.func 13)), args := #[(Operand.tmp 38), (Operand.tmp 39)], argTypes := #[22, 3] } 13 #[.pointer (some ⟨g1, 0, none⟩), .int .i64 b] (some 40) (by kernel_rfl) (by kernel_rfl) (by kernel_rfl) (column_spec _ rfl b _) ?_
    rintro _ w19 ⟨bg21, bs22, bn23, rfl, hbg21, hbs22, hbn23, hk20, hgebg21, hgebs22, hgebn23⟩
    refine ⟨_, rfl, ?_⟩
    have hsz24 := Keep.size hk20
    replace hbg11 := hbg11.keep hk20 (fun f => f)
    have hbg11lt := hbg11.lt
    replace hbs12 := hbs12.keep hk20 (fun f => f)
    have hbs12lt := hbs12.lt
    replace hbn13 := hbn13.keep hk20 (fun f => f)
    have hbn13lt := hbn13.lt
    replace hA := ArgT.keep0 hA hk20
    replace hAk17 := SlT.keep0 hAk17 hk20
    replace hAv17 := SlT.keep0 hAv17 hk20
    replace hK0 := Keep.tr hK0 (Keep.ofNone hk20); have hzhK0 := Keep.size hK0
    replace ho1 := Grd.keep ho1 hk20 (fun _ _ f => f)
    replace ho2 := Rgd.keep ho2 hk20 (fun _ _ f => f)
    have hbg21lt := hbg21.lt
    have hbs22lt := hbs22.lt
    have hbn23lt := hbn23.lt
    refine OI_call { callee := (Callee.value (Operand.func 20)), args := #[(Operand.tmp 40)], argTypes := #[26] } 20 #[.func (.func 47) #[] #[.pointer (some ⟨bg21, 0, none⟩), .pointer (some ⟨bs22, 0, none⟩), .pointer (some ⟨bn23, 0, none⟩)]] (some 41) (by kernel_rfl) (by kernel_rfl) (by kernel_rfl) (told_col F1 g1 (bldC xs (min xs.length 100)) b bg21 bs22 bn23 ((((bldC xs (min xs.length 100))).filter (fun c : Ci => c.b == b)).map (fun c : Ci => (c.a, c.v))) _ rfl ho1 hbg21 hbs22 hbn23 (by omega)) ?_
    rintro _ w25 ⟨Ak27, capk27, Av27, capv27, rfl, hAk27, hAv27, hk26, owAk27, owAv27⟩
    refine ⟨_, rfl, ?_⟩
    have hsz28 := Keep.size hk26
    replace hbg11 := hbg11.keep hk26 (fun f => f)
    have hbg11lt := hbg11.lt
    replace hbs12 := hbs12.keep hk26 (fun f => f)
    have hbs12lt := hbs12.lt
    replace hbn13 := hbn13.keep hk26 (fun f => f)
    have hbn13lt := hbn13.lt
    replace hbg21 := hbg21.keep hk26 (fun f => f)
    have hbg21lt := hbg21.lt
    replace hbs22 := hbs22.keep hk26 (fun f => f)
    have hbs22lt := hbs22.lt
    replace hbn23 := hbn23.keep hk26 (fun f => f)
    have hbn23lt := hbn23.lt
    replace hA := ArgT.keep0 hA hk26
    replace hAk17 := SlT.keep0 hAk17 hk26
    replace hAv17 := SlT.keep0 hAv17 hk26
    replace hK0 := Keep.tr hK0 (Keep.ofNone hk26); have hzhK0 := Keep.size hK0
    replace ho1 := Grd.keep ho1 hk26 (fun _ _ f => f)
    replace ho2 := Rgd.keep ho2 hk26 (fun _ _ f => f)
    have ltAk27 := SlT.lt hAk27
    have ltAv27 := SlT.lt hAv27
    refine OI_static 11 [(1, .int .i64 a), (2, .int .i64 b), (8, .pointer (some ⟨x1, 0, none⟩)), (9, .slice Ak17 (((((bldC xs (min xs.length 100))).filter (fun c : Ci => c.a == a)).map (fun c : Ci => (c.b, c.v))).length) capk17), (10, .slice Av17 (((((bldC xs (min xs.length 100))).filter (fun c : Ci => c.a == a)).map (fun c : Ci => (c.b, c.v))).length) capv17), (11, .bool true), (12, .slice Ak27 (((((bldC xs (min xs.length 100))).filter (fun c : Ci => c.b == b)).map (fun c : Ci => (c.a, c.v))).length) capk27), (13, .slice Av27 (((((bldC xs (min xs.length 100))).filter (fun c : Ci => c.b == b)).map (fun c : Ci => (c.a, c.v))).length) capv27), (14, .bool true)] (by kernel_rfl) ?_
    refine OI_end rfl ?_
    refine X_then ?_
    refine V_seq ?_
    refine V_region ?_
    refine OI_static 2 [(2, .int .i64 b), (8, .pointer (some ⟨x1, 0, none⟩)), (9, .slice Ak17 (((((bldC xs (min xs.length 100))).filter (fun c : Ci => c.a == a)).map (fun c : Ci => (c.b, c.v))).length) capk17), (10, .slice Av17 (((((bldC xs (min xs.length 100))).filter (fun c : Ci => c.a == a)).map (fun c : Ci => (c.b, c.v))).length) capv17), (11, .bool true), (12, .slice Ak27 (((((bldC xs (min xs.length 100))).filter (fun c : Ci => c.b == b)).map (fun c : Ci => (c.a, c.v))).length) capk27), (13, .slice Av27 (((((bldC xs (min xs.length 100))).filter (fun c : Ci => c.b == b)).map (fun c : Ci => (c.a, c.v))).length) capv27), (14, .bool true), (45, .pointer (some ⟨x1, 0, none⟩)), (46, .int .i64 a)] (by kernel_rfl) ?_
    refine OI_call { callee := (Callee.value (Operand.func 26)), args := #[(Operand.tmp 45), (Operand.tmp 46)], argTypes := #[46, 3] } 26 #[.pointer (some ⟨x1, 0, none⟩), .int .i64 a] (some 47) (by kernel_rfl) (by kernel_rfl) (by kernel_rfl) (rrow_spec F2 x1 (bldC xs (min xs.length 100)) a _ ho2) ?_
    rintro _ w29 ⟨P31, capP31, rfl, hAP31, hk30, owP31⟩
    refine ⟨_, rfl, ?_⟩
    have hsz32 := Keep.size hk30
    replace hbg11 := hbg11.keep hk30 (fun f => f)
    have hbg11lt := hbg11.lt
    replace hbs12 := hbs12.keep hk30 (fun f => f)
    have hbs12lt := hbs12.lt
    replace hbn13 := hbn13.keep hk30 (fun f => f)
    have hbn13lt := hbn13.lt
    replace hbg21 := hbg21.keep hk30 (fun f => f)
    have hbg21lt := hbg21.lt
    replace hbs22 := hbs22.keep hk30 (fun f => f)
    have hbs22lt := hbs22.lt
    replace hbn23 := hbn23.keep hk30 (fun f => f)
    have hbn23lt := hbn23.lt
    replace hA := ArgT.keep0 hA hk30
    replace hAk17 := SlT.keep0 hAk17 hk30
    replace hAv17 := SlT.keep0 hAv17 hk30
    replace hAk27 := SlT.keep0 hAk27 hk30
    replace hAv27 := SlT.keep0 hAv27 hk30
    replace hK0 := Keep.tr hK0 (Keep.ofNone hk30); have hzhK0 := Keep.size hK0
    replace ho1 := Grd.keep ho1 hk30 (fun _ _ f => f)
    replace ho2 := Rgd.keep ho2 hk30 (fun _ _ f => f)
    have ltP31 := SlT.lt hAP31
    refine OI_static 5 [(9, .slice Ak17 (((((bldC xs (min xs.length 100))).filter (fun c : Ci => c.a == a)).map (fun c : Ci => (c.b, c.v))).length) capk17), (10, .slice Av17 (((((bldC xs (min xs.length 100))).filter (fun c : Ci => c.a == a)).map (fun c : Ci => (c.b, c.v))).length) capv17), (11, .bool true), (12, .slice Ak27 (((((bldC xs (min xs.length 100))).filter (fun c : Ci => c.b == b)).map (fun c : Ci => (c.a, c.v))).length) capk27), (13, .slice Av27 (((((bldC xs (min xs.length 100))).filter (fun c : Ci => c.b == b)).map (fun c : Ci => (c.a, c.v))).length) capv27), (14, .bool true), (47, .slice P31 (((bldC xs (min xs.length 100)).filter (fun c : Ci => c.a == a)).length) capP31), (48, .pointer (some ⟨x1, 0, none⟩)), (49, .int .i64 b)] (by kernel_rfl) ?_
    refine OI_call { callee := (Callee.value (Operand.func 27)), args := #[(Operand.tmp 48), (Operand.tmp 49)], argTypes := #[46, 3] } 27 #[.pointer (some ⟨x1, 0, none⟩), .int .i64 b] (some 50) (by kernel_rfl) (by kernel_rfl) (by kernel_rfl) (rcolumn_spec F2 x1 (bldC xs (min xs.length 100)) b _ ho2) ?_
    rintro _ w33 ⟨P35, capP35, rfl, hAP35, hk34, owP35⟩
    refine ⟨_, rfl, ?_⟩
    have hsz36 := Keep.size hk34
    replace hbg11 := hbg11.keep hk34 (fun f => f)
    have hbg11lt := hbg11.lt
    replace hbs12 := hbs12.keep hk34 (fun f => f)
    have hbs12lt := hbs12.lt
    replace hbn13 := hbn13.keep hk34 (fun f => f)
    have hbn13lt := hbn13.lt
    replace hbg21 := hbg21.keep hk34 (fun f => f)
    have hbg21lt := hbg21.lt
    replace hbs22 := hbs22.keep hk34 (fun f => f)
    have hbs22lt := hbs22.lt
    replace hbn23 := hbn23.keep hk34 (fun f => f)
    have hbn23lt := hbn23.lt
    replace hA := ArgT.keep0 hA hk34
    replace hAk17 := SlT.keep0 hAk17 hk34
    replace hAv17 := SlT.keep0 hAv17 hk34
    replace hAk27 := SlT.keep0 hAk27 hk34
    replace hAv27 := SlT.keep0 hAv27 hk34
    replace hAP31 := SlT.keep0 hAP31 hk34
    replace hK0 := Keep.tr hK0 (Keep.ofNone hk34); have hzhK0 := Keep.size hK0
    replace ho1 := Grd.keep ho1 hk34 (fun _ _ f => f)
    replace ho2 := Rgd.keep ho2 hk34 (fun _ _ f => f)
    have ltP35 := SlT.lt hAP35
    refine OI_static 8 [(9, .slice Ak17 (((((bldC xs (min xs.length 100))).filter (fun c : Ci => c.a == a)).map (fun c : Ci => (c.b, c.v))).length) capk17), (10, .slice Av17 (((((bldC xs (min xs.length 100))).filter (fun c : Ci => c.a == a)).map (fun c : Ci => (c.b, c.v))).length) capv17), (11, .bool true), (12, .slice Ak27 (((((bldC xs (min xs.length 100))).filter (fun c : Ci => c.b == b)).map (fun c : Ci => (c.a, c.v))).length) capk27), (13, .slice Av27 (((((bldC xs (min xs.length 100))).filter (fun c : Ci => c.b == b)).map (fun c : Ci => (c.a, c.v))).length) capv27), (14, .bool true), (15, .slice P31 (((bldC xs (min xs.length 100)).filter (fun c : Ci => c.a == a)).length) capP31), (16, .slice P35 (((bldC xs (min xs.length 100)).filter (fun c : Ci => c.b == b)).length) capP35)] (by kernel_rfl) ?_
    refine OI_end rfl ?_
    refine X_then ?_
    refine V_seq ?_
    refine V_seq ?_
    refine V_region ?_
    refine OI_static 14 [(9, .slice Ak17 (((((bldC xs (min xs.length 100))).filter (fun c : Ci => c.a == a)).map (fun c : Ci => (c.b, c.v))).length) capk17), (10, .slice Av17 (((((bldC xs (min xs.length 100))).filter (fun c : Ci => c.a == a)).map (fun c : Ci => (c.b, c.v))).length) capv17), (12, .slice Ak27 (((((bldC xs (min xs.length 100))).filter (fun c : Ci => c.b == b)).map (fun c : Ci => (c.a, c.v))).length) capk27), (13, .slice Av27 (((((bldC xs (min xs.length 100))).filter (fun c : Ci => c.b == b)).map (fun c : Ci => (c.a, c.v))).length) capv27), (15, .slice P31 (((bldC xs (min xs.length 100)).filter (fun c : Ci => c.a == a)).length) capP31), (16, .slice P35 (((bldC xs (min xs.length 100)).filter (fun c : Ci => c.b == b)).length) capP35), (64, .bool (!(decide (((((((bldC xs (min xs.length 100))).filter (fun c : Ci => c.a == a)).map (fun c : Ci => (c.b, c.v))).length : Nat) : Int) = ((((bldC xs (min xs.length 100)).filter (fun c : Ci => c.a == a)).length : Nat) : Int)))))] (by kernel_rfl) ?_
    refine OI_eq [(9, .slice Ak17 (((((bldC xs (min xs.length 100))).filter (fun c : Ci => c.a == a)).map (fun c : Ci => (c.b, c.v))).length) capk17), (10, .slice Av17 (((((bldC xs (min xs.length 100))).filter (fun c : Ci => c.a == a)).map (fun c : Ci => (c.b, c.v))).length) capv17), (12, .slice Ak27 (((((bldC xs (min xs.length 100))).filter (fun c : Ci => c.b == b)).map (fun c : Ci => (c.a, c.v))).length) capk27), (13, .slice Av27 (((((bldC xs (min xs.length 100))).filter (fun c : Ci => c.b == b)).map (fun c : Ci => (c.a, c.v))).length) capv27), (15, .slice P31 (((bldC xs (min xs.length 100)).filter (fun c : Ci => c.a == a)).length) capP31), (16, .slice P35 (((bldC xs (min xs.length 100)).filter (fun c : Ci => c.b == b)).length) capP35), (64, .bool false)] (by rw [decide_eq_true (by simp : ((((((bldC xs (min xs.length 100))).filter (fun c : Ci => c.a == a)).map (fun c : Ci => (c.b, c.v))).length : Nat) : Int) = ((((bldC xs (min xs.length 100)).filter (fun c : Ci => c.a == a)).length : Nat) : Int))]; rfl) ?_
    refine OI_static 21 [(9, .slice Ak17 (((((bldC xs (min xs.length 100))).filter (fun c : Ci => c.a == a)).map (fun c : Ci => (c.b, c.v))).length) capk17), (10, .slice Av17 (((((bldC xs (min xs.length 100))).filter (fun c : Ci => c.a == a)).map (fun c : Ci => (c.b, c.v))).length) capv17), (12, .slice Ak27 (((((bldC xs (min xs.length 100))).filter (fun c : Ci => c.b == b)).map (fun c : Ci => (c.a, c.v))).length) capk27), (13, .slice Av27 (((((bldC xs (min xs.length 100))).filter (fun c : Ci => c.b == b)).map (fun c : Ci => (c.a, c.v))).length) capv27), (15, .slice P31 (((bldC xs (min xs.length 100)).filter (fun c : Ci => c.a == a)).length) capP31), (16, .slice P35 (((bldC xs (min xs.length 100)).filter (fun c : Ci => c.b == b)).length) capP35), (71, .bool (!(decide (((((((bldC xs (min xs.length 100))).filter (fun c : Ci => c.a == a)).map (fun c : Ci => (c.b, c.v))).length : Nat) : Int) = ((((bldC xs (min xs.length 100)).filter (fun c : Ci => c.a == a)).length : Nat) : Int)))))] (by kernel_rfl) ?_
    refine OI_eq [(9, .slice Ak17 (((((bldC xs (min xs.length 100))).filter (fun c : Ci => c.a == a)).map (fun c : Ci => (c.b, c.v))).length) capk17), (10, .slice Av17 (((((bldC xs (min xs.length 100))).filter (fun c : Ci => c.a == a)).map (fun c : Ci => (c.b, c.v))).length) capv17), (12, .slice Ak27 (((((bldC xs (min xs.length 100))).filter (fun c : Ci => c.b == b)).map (fun c : Ci => (c.a, c.v))).length) capk27), (13, .slice Av27 (((((bldC xs (min xs.length 100))).filter (fun c : Ci => c.b == b)).map (fun c : Ci => (c.a, c.v))).length) capv27), (15, .slice P31 (((bldC xs (min xs.length 100)).filter (fun c : Ci => c.a == a)).length) capP31), (16, .slice P35 (((bldC xs (min xs.length 100)).filter (fun c : Ci => c.b == b)).length) capP35), (71, .bool false)] (by rw [decide_eq_true (by simp : ((((((bldC xs (min xs.length 100))).filter (fun c : Ci => c.a == a)).map (fun c : Ci => (c.b, c.v))).length : Nat) : Int) = ((((bldC xs (min xs.length 100)).filter (fun c : Ci => c.a == a)).length : Nat) : Int))]; rfl) ?_
    refine OI_static 28 [(9, .slice Ak17 (((((bldC xs (min xs.length 100))).filter (fun c : Ci => c.a == a)).map (fun c : Ci => (c.b, c.v))).length) capk17), (10, .slice Av17 (((((bldC xs (min xs.length 100))).filter (fun c : Ci => c.a == a)).map (fun c : Ci => (c.b, c.v))).length) capv17), (12, .slice Ak27 (((((bldC xs (min xs.length 100))).filter (fun c : Ci => c.b == b)).map (fun c : Ci => (c.a, c.v))).length) capk27), (13, .slice Av27 (((((bldC xs (min xs.length 100))).filter (fun c : Ci => c.b == b)).map (fun c : Ci => (c.a, c.v))).length) capv27), (15, .slice P31 (((bldC xs (min xs.length 100)).filter (fun c : Ci => c.a == a)).length) capP31), (16, .slice P35 (((bldC xs (min xs.length 100)).filter (fun c : Ci => c.b == b)).length) capP35), (78, .bool (!(decide (((((((bldC xs (min xs.length 100))).filter (fun c : Ci => c.b == b)).map (fun c : Ci => (c.a, c.v))).length : Nat) : Int) = ((((bldC xs (min xs.length 100)).filter (fun c : Ci => c.b == b)).length : Nat) : Int)))))] (by kernel_rfl) ?_
    refine OI_eq [(9, .slice Ak17 (((((bldC xs (min xs.length 100))).filter (fun c : Ci => c.a == a)).map (fun c : Ci => (c.b, c.v))).length) capk17), (10, .slice Av17 (((((bldC xs (min xs.length 100))).filter (fun c : Ci => c.a == a)).map (fun c : Ci => (c.b, c.v))).length) capv17), (12, .slice Ak27 (((((bldC xs (min xs.length 100))).filter (fun c : Ci => c.b == b)).map (fun c : Ci => (c.a, c.v))).length) capk27), (13, .slice Av27 (((((bldC xs (min xs.length 100))).filter (fun c : Ci => c.b == b)).map (fun c : Ci => (c.a, c.v))).length) capv27), (15, .slice P31 (((bldC xs (min xs.length 100)).filter (fun c : Ci => c.a == a)).length) capP31), (16, .slice P35 (((bldC xs (min xs.length 100)).filter (fun c : Ci => c.b == b)).length) capP35), (78, .bool false)] (by rw [decide_eq_true (by simp : ((((((bldC xs (min xs.length 100))).filter (fun c : Ci => c.b == b)).map (fun c : Ci => (c.a, c.v))).length : Nat) : Int) = ((((bldC xs (min xs.length 100)).filter (fun c : Ci => c.b == b)).length : Nat) : Int))]; rfl) ?_
    refine OI_static 34 [(9, .slice Ak17 (((((bldC xs (min xs.length 100))).filter (fun c : Ci => c.a == a)).map (fun c : Ci => (c.b, c.v))).length) capk17), (10, .slice Av17 (((((bldC xs (min xs.length 100))).filter (fun c : Ci => c.a == a)).map (fun c : Ci => (c.b, c.v))).length) capv17), (12, .slice Ak27 (((((bldC xs (min xs.length 100))).filter (fun c : Ci => c.b == b)).map (fun c : Ci => (c.a, c.v))).length) capk27), (13, .slice Av27 (((((bldC xs (min xs.length 100))).filter (fun c : Ci => c.b == b)).map (fun c : Ci => (c.a, c.v))).length) capv27), (15, .slice P31 (((bldC xs (min xs.length 100)).filter (fun c : Ci => c.a == a)).length) capP31), (16, .slice P35 (((bldC xs (min xs.length 100)).filter (fun c : Ci => c.b == b)).length) capP35), (84, .bool (!(decide (((((((bldC xs (min xs.length 100))).filter (fun c : Ci => c.b == b)).map (fun c : Ci => (c.a, c.v))).length : Nat) : Int) = ((((bldC xs (min xs.length 100)).filter (fun c : Ci => c.b == b)).length : Nat) : Int)))))] (by kernel_rfl) ?_
    refine OI_end rfl ?_
    refine X_then ?_
    refine V_eq [(9, .slice Ak17 (((((bldC xs (min xs.length 100))).filter (fun c : Ci => c.a == a)).map (fun c : Ci => (c.b, c.v))).length) capk17), (10, .slice Av17 (((((bldC xs (min xs.length 100))).filter (fun c : Ci => c.a == a)).map (fun c : Ci => (c.b, c.v))).length) capv17), (12, .slice Ak27 (((((bldC xs (min xs.length 100))).filter (fun c : Ci => c.b == b)).map (fun c : Ci => (c.a, c.v))).length) capk27), (13, .slice Av27 (((((bldC xs (min xs.length 100))).filter (fun c : Ci => c.b == b)).map (fun c : Ci => (c.a, c.v))).length) capv27), (15, .slice P31 (((bldC xs (min xs.length 100)).filter (fun c : Ci => c.a == a)).length) capP31), (16, .slice P35 (((bldC xs (min xs.length 100)).filter (fun c : Ci => c.b == b)).length) capP35), (84, .bool false)] (by rw [decide_eq_true (by simp : ((((((bldC xs (min xs.length 100))).filter (fun c : Ci => c.b == b)).map (fun c : Ci => (c.a, c.v))).length : Nat) : Int) = ((((bldC xs (min xs.length 100)).filter (fun c : Ci => c.b == b)).length : Nat) : Int))]; rfl) ?_
    refine V_false rfl ?_
    refine V_skip ?_
    refine X_then ?_
    refine V_seq ?_
    refine V_seq ?_
    refine V_region ?_
    refine OI_static 1 [(9, .slice Ak17 (((((bldC xs (min xs.length 100))).filter (fun c : Ci => c.a == a)).map (fun c : Ci => (c.b, c.v))).length) capk17), (10, .slice Av17 (((((bldC xs (min xs.length 100))).filter (fun c : Ci => c.a == a)).map (fun c : Ci => (c.b, c.v))).length) capv17), (12, .slice Ak27 (((((bldC xs (min xs.length 100))).filter (fun c : Ci => c.b == b)).map (fun c : Ci => (c.a, c.v))).length) capk27), (13, .slice Av27 (((((bldC xs (min xs.length 100))).filter (fun c : Ci => c.b == b)).map (fun c : Ci => (c.a, c.v))).length) capv27), (15, .slice P31 (((bldC xs (min xs.length 100)).filter (fun c : Ci => c.a == a)).length) capP31), (16, .slice P35 (((bldC xs (min xs.length 100)).filter (fun c : Ci => c.b == b)).length) capP35), (17, .int .i64 0)] (by kernel_rfl) ?_
    refine OI_end rfl ?_
    refine X_then ?_
    refine V_block ?_
    have hfla : ((bldC xs (min xs.length 100)).filter (fun c : Ci => c.a == a)).length ≤ (bldC xs (min xs.length 100)).length := List.length_filter_le _ _
    refine V_pick [(9, .slice Ak17 (((((bldC xs (min xs.length 100))).filter (fun c : Ci => c.a == a)).map (fun c : Ci => (c.b, c.v))).length) capk17), (10, .slice Av17 (((((bldC xs (min xs.length 100))).filter (fun c : Ci => c.a == a)).map (fun c : Ci => (c.b, c.v))).length) capv17), (12, .slice Ak27 (((((bldC xs (min xs.length 100))).filter (fun c : Ci => c.b == b)).map (fun c : Ci => (c.a, c.v))).length) capk27), (13, .slice Av27 (((((bldC xs (min xs.length 100))).filter (fun c : Ci => c.b == b)).map (fun c : Ci => (c.a, c.v))).length) capv27), (15, .slice P31 (((bldC xs (min xs.length 100)).filter (fun c : Ci => c.a == a)).length) capP31), (16, .slice P35 (((bldC xs (min xs.length 100)).filter (fun c : Ci => c.b == b)).length) capP35), (17, .int .i64 0)] rfl ?_
    refine V_loop (fun k wI e => ∃ i : Nat, (k + i = ((bldC xs (min xs.length 100)).filter (fun c : Ci => c.a == a)).length) ∧ Keep none_ w33 wI ∧ e = [(9, .slice Ak17 (((((bldC xs (min xs.length 100))).filter (fun c : Ci => c.a == a)).map (fun c : Ci => (c.b, c.v))).length) capk17), (10, .slice Av17 (((((bldC xs (min xs.length 100))).filter (fun c : Ci => c.a == a)).map (fun c : Ci => (c.b, c.v))).length) capv17), (12, .slice Ak27 (((((bldC xs (min xs.length 100))).filter (fun c : Ci => c.b == b)).map (fun c : Ci => (c.a, c.v))).length) capk27), (13, .slice Av27 (((((bldC xs (min xs.length 100))).filter (fun c : Ci => c.b == b)).map (fun c : Ci => (c.a, c.v))).length) capv27), (15, .slice P31 (((bldC xs (min xs.length 100)).filter (fun c : Ci => c.a == a)).length) capP31), (16, .slice P35 (((bldC xs (min xs.length 100)).filter (fun c : Ci => c.b == b)).length) capP35), (17, .int .i64 ((i : Nat) : Int))]) (((bldC xs (min xs.length 100)).filter (fun c : Ci => c.a == a)).length) ⟨0, by omega, Keep.refl _ _, rfl⟩ ?_
    rintro k42 w41 _ ⟨i, hki, hk43, rfl⟩
    have hsz44 := Keep.size hk43
    replace hbg11 := hbg11.keep hk43 (fun f => f)
    have hbg11lt := hbg11.lt
    replace hbs12 := hbs12.keep hk43 (fun f => f)
    have hbs12lt := hbs12.lt
    replace hbn13 := hbn13.keep hk43 (fun f => f)
    have hbn13lt := hbn13.lt
    replace hbg21 := hbg21.keep hk43 (fun f => f)
    have hbg21lt := hbg21.lt
    replace hbs22 := hbs22.keep hk43 (fun f => f)
    have hbs22lt := hbs22.lt
    replace hbn23 := hbn23.keep hk43 (fun f => f)
    have hbn23lt := hbn23.lt
    replace hA := ArgT.keep0 hA hk43
    replace hAk17 := SlT.keep0 hAk17 hk43
    replace hAv17 := SlT.keep0 hAv17 hk43
    replace hAk27 := SlT.keep0 hAk27 hk43
    replace hAv27 := SlT.keep0 hAv27 hk43
    replace hAP31 := SlT.keep0 hAP31 hk43
    replace hAP35 := SlT.keep0 hAP35 hk43
    replace hK0 := Keep.tr hK0 (Keep.ofNone hk43); have hzhK0 := Keep.size hK0
    replace ho1 := Grd.keep ho1 hk43 (fun _ _ f => f)
    replace ho2 := Rgd.keep ho2 hk43 (fun _ _ f => f)
    have hzhk43 := Keep.size hk43
    have hlq1 : ((((bldC xs (min xs.length 100)).filter (fun c : Ci => c.a == a)).map (fun c : Ci => (c.b, c.v))).map (·.1)).length = ((bldC xs (min xs.length 100)).filter (fun c : Ci => c.a == a)).length := by simp
    have hlq2 : (((bldC xs (min xs.length 100)).filter (fun c : Ci => c.a == a)).map (fun c : Ci => (c.b, c.v))).length = ((bldC xs (min xs.length 100)).filter (fun c : Ci => c.a == a)).length := by simp
    refine V_seq ?_
    refine V_seq ?_
    refine V_region ?_
    refine OI_static 4 [(9, .slice Ak17 (((((bldC xs (min xs.length 100))).filter (fun c : Ci => c.a == a)).map (fun c : Ci => (c.b, c.v))).length) capk17), (10, .slice Av17 (((((bldC xs (min xs.length 100))).filter (fun c : Ci => c.a == a)).map (fun c : Ci => (c.b, c.v))).length) capv17), (12, .slice Ak27 (((((bldC xs (min xs.length 100))).filter (fun c : Ci => c.b == b)).map (fun c : Ci => (c.a, c.v))).length) capk27), (13, .slice Av27 (((((bldC xs (min xs.length 100))).filter (fun c : Ci => c.b == b)).map (fun c : Ci => (c.a, c.v))).length) capv27), (15, .slice P31 (((bldC xs (min xs.length 100)).filter (fun c : Ci => c.a == a)).length) capP31), (16, .slice P35 (((bldC xs (min xs.length 100)).filter (fun c : Ci => c.b == b)).length) capP35), (17, .int .i64 ((i : Nat) : Int)), (88, .bool (decide (((i : Nat) : Int) < ((((bldC xs (min xs.length 100)).filter (fun c : Ci => c.a == a)).length : Nat) : Int))))] (by kernel_rfl) ?_
    refine OI_end rfl ?_
    refine X_then ?_
    refine V_if (((i : Nat) : Int) < ((((bldC xs (min xs.length 100)).filter (fun c : Ci => c.a == a)).length : Nat) : Int)) (by kernel_rfl) (fun hc45 => ?_) (fun hc45 => ?_)
    · skip
      refine V_skip ?_
      refine X_then ?_
      refine V_seq ?_
      refine V_block ?_
      refine V_seq ?_
      refine V_draws (acts []) none_ [[0, 1, 2, 3, 4, 5, 6, 7, 8, 9, 10, 11, 12, 13, 14, 15, 16, 17, 18, 19, 20, 21]] (by kernel_rfl) (by repeat first | exact sure_body (by rintro _ _ ⟨h, _⟩; exact ⟨_, h⟩) | refine sure_then ?_ | refine sure_block ?_ | refine sure_join ?_) (by kernel_rfl) ?_
      intro w47 hk46 he48 L hL49
      have hsz50 := Keep.size hk46
      replace hbg11 := hbg11.keep hk46 (fun f => f)
      have hbg11lt := hbg11.lt
      replace hbs12 := hbs12.keep hk46 (fun f => f)
      have hbs12lt := hbs12.lt
      replace hbn13 := hbn13.keep hk46 (fun f => f)
      have hbn13lt := hbn13.lt
      replace hbg21 := hbg21.keep hk46 (fun f => f)
      have hbg21lt := hbg21.lt
      replace hbs22 := hbs22.keep hk46 (fun f => f)
      have hbs22lt := hbs22.lt
      replace hbn23 := hbn23.keep hk46 (fun f => f)
      have hbn23lt := hbn23.lt
      replace hA := ArgT.keep0 hA hk46
      replace hAk17 := SlT.keep0 hAk17 hk46
      replace hAv17 := SlT.keep0 hAv17 hk46
      replace hAk27 := SlT.keep0 hAk27 hk46
      replace hAv27 := SlT.keep0 hAv27 hk46
      replace hAP31 := SlT.keep0 hAP31 hk46
      replace hAP35 := SlT.keep0 hAP35 hk46
      replace hK0 := Keep.tr hK0 (Keep.ofNone hk46); have hzhK0 := Keep.size hK0
      replace ho1 := Grd.keep ho1 hk46 (fun _ _ f => f)
      replace ho2 := Rgd.keep ho2 hk46 (fun _ _ f => f)
      replace hk43 := Keep.tr hk43 (Keep.ofNone hk46); have hzhk43 := Keep.size hk43
      have qhbg11 := hbg11
      have qhbs12 := hbs12
      have qhbn13 := hbn13
      have qhbg21 := hbg21
      have qhbs22 := hbs22
      have qhbn23 := hbn23
      have K51 : Keep none_ w47 w47 := Keep.refl _ _
      obtain rfl := List.mem_singleton.1 hL49
      refine GI_static [2, 3, 4, 5, 6, 7, 8, 9, 10, 11, 12, 13, 14, 15, 16, 17, 18, 19, 20, 21] [(9, .slice Ak17 (((((bldC xs (min xs.length 100))).filter (fun c : Ci => c.a == a)).map (fun c : Ci => (c.b, c.v))).length) capk17), (10, .slice Av17 (((((bldC xs (min xs.length 100))).filter (fun c : Ci => c.a == a)).map (fun c : Ci => (c.b, c.v))).length) capv17), (12, .slice Ak27 (((((bldC xs (min xs.length 100))).filter (fun c : Ci => c.b == b)).map (fun c : Ci => (c.a, c.v))).length) capk27), (13, .slice Av27 (((((bldC xs (min xs.length 100))).filter (fun c : Ci => c.b == b)).map (fun c : Ci => (c.a, c.v))).length) capv27), (15, .slice P31 (((bldC xs (min xs.length 100)).filter (fun c : Ci => c.a == a)).length) capP31), (16, .slice P35 (((bldC xs (min xs.length 100)).filter (fun c : Ci => c.b == b)).length) capP35), (17, .int .i64 ((i : Nat) : Int)), (91, .slice Ak17 (((((bldC xs (min xs.length 100))).filter (fun c : Ci => c.a == a)).map (fun c : Ci => (c.b, c.v))).length) capk17), (92, .int .i64 ((i : Nat) : Int))] (by kernel_rfl) ?_
      obtain ⟨b52, o52, L52, T52, rfl, hat52⟩ := SlT.open_ hAk17 (by first | omega | (simp only [List.length_map]; omega) | (simp; done) | (simp; omega))
      have hb52lt := hat52.blk.lt
      have hob53 := owAk17 b52 ⟨_, rfl, rfl⟩
      have hob54 := ltAk17 b52 ⟨_, rfl, rfl⟩
      refine GI_pure (some 93) (.indexAddr 30 (.tmp 91) (.tmp 92)) (by kernel_rfl) (by kernel_rfl) (pure_idxN (b := b52) (o := o52) (len := ((((bldC xs (min xs.length 100))).filter (fun c : Ci => c.a == a)).map (fun c : Ci => (c.b, c.v))).length) (cap := capk17) (kd := .i64) (j := i) (E := 3) (sz := 1) (by_ := 8) (by kernel_rfl) (by kernel_rfl) (by kernel_rfl) (by omega)) ?_
      obtain ⟨x55, hx56⟩ : ∃ x, (((((bldC xs (min xs.length 100))).filter (fun c : Ci => c.a == a)).map (fun c : Ci => (c.b, c.v))).map (·.1))[i]? = some x := ⟨_, List.getElem?_eq_getElem (by first | omega | (simp only [List.length_map]; omega))⟩
      refine GI_cell 3 (.tmp 93) (o52 + i * 1) (.int .i64 x55) (some 94) (by kernel_rfl) (by kernel_rfl) (by kernel_rfl) hat52.blk (fun f => f) (m := 1) (by kernel_rfl) (At.cell0 hat52 (es_at hx56) rfl) ?_
      refine GI_static [6, 7, 8, 9, 10, 11, 12, 13, 14, 15, 16, 17, 18, 19, 20, 21] [(9, .slice (some ⟨b52, o52, none⟩) (((((bldC xs (min xs.length 100))).filter (fun c : Ci => c.a == a)).map (fun c : Ci => (c.b, c.v))).length) capk17), (10, .slice Av17 (((((bldC xs (min xs.length 100))).filter (fun c : Ci => c.a == a)).map (fun c : Ci => (c.b, c.v))).length) capv17), (12, .slice Ak27 (((((bldC xs (min xs.length 100))).filter (fun c : Ci => c.b == b)).map (fun c : Ci => (c.a, c.v))).length) capk27), (13, .slice Av27 (((((bldC xs (min xs.length 100))).filter (fun c : Ci => c.b == b)).map (fun c : Ci => (c.a, c.v))).length) capv27), (15, .slice P31 (((bldC xs (min xs.length 100)).filter (fun c : Ci => c.a == a)).length) capP31), (16, .slice P35 (((bldC xs (min xs.length 100)).filter (fun c : Ci => c.b == b)).length) capP35), (17, .int .i64 ((i : Nat) : Int)), (94, .int .i64 x55), (95, .slice P31 (((bldC xs (min xs.length 100)).filter (fun c : Ci => c.a == a)).length) capP31), (96, .int .i64 ((i : Nat) : Int))] (by kernel_rfl) ?_
      obtain ⟨b57, o57, L57, T57, rfl, hat57⟩ := SlT.open_ hAP31 (by first | omega | (simp only [List.length_map]; omega) | (simp; done) | (simp; omega))
      have hb57lt := hat57.blk.lt
      have hob58 := owP31 b57 ⟨_, rfl, rfl⟩
      have hob59 := ltP31 b57 ⟨_, rfl, rfl⟩
      refine GI_pure (some 97) (.indexAddr 47 (.tmp 95) (.tmp 96)) (by kernel_rfl) (by kernel_rfl) (pure_idxN (b := b57) (o := o57) (len := ((bldC xs (min xs.length 100)).filter (fun c : Ci => c.a == a)).length) (cap := capP31) (kd := .i64) (j := i) (E := 59) (sz := 3) (by_ := 24) (by kernel_rfl) (by kernel_rfl) (by kernel_rfl) (by omega)) ?_
      refine GI_static [8, 9, 10, 11, 12, 13, 14, 15, 16, 17, 18, 19, 20, 21] [(9, .slice (some ⟨b52, o52, none⟩) (((((bldC xs (min xs.length 100))).filter (fun c : Ci => c.a == a)).map (fun c : Ci => (c.b, c.v))).length) capk17), (10, .slice Av17 (((((bldC xs (min xs.length 100))).filter (fun c : Ci => c.a == a)).map (fun c : Ci => (c.b, c.v))).length) capv17), (12, .slice Ak27 (((((bldC xs (min xs.length 100))).filter (fun c : Ci => c.b == b)).map (fun c : Ci => (c.a, c.v))).length) capk27), (13, .slice Av27 (((((bldC xs (min xs.length 100))).filter (fun c : Ci => c.b == b)).map (fun c : Ci => (c.a, c.v))).length) capv27), (15, .slice (some ⟨b57, o57, none⟩) (((bldC xs (min xs.length 100)).filter (fun c : Ci => c.a == a)).length) capP31), (16, .slice P35 (((bldC xs (min xs.length 100)).filter (fun c : Ci => c.b == b)).length) capP35), (17, .int .i64 ((i : Nat) : Int)), (94, .int .i64 x55), (98, .pointer (some ⟨b57, o57 + i * 3 + 1, none⟩))] (by kernel_rfl) ?_
      obtain ⟨x60, hx61⟩ : ∃ x, ((bldC xs (min xs.length 100)).filter (fun c : Ci => c.a == a))[i]? = some x := ⟨_, List.getElem?_eq_getElem (by first | omega | (simp only [List.length_map]; omega))⟩
      refine GI_cell 3 (.tmp 98) (o57 + i * 3 + 1) (.int .i64 x60.b) (some 99) (by kernel_rfl) (by kernel_rfl) (by kernel_rfl) hat57.blk (fun f => f) (m := 1) (by kernel_rfl) (At.cell hat57 (es_at hx61) rfl) ?_
      refine GI_static [11, 12, 13, 14, 15, 16, 17, 18, 19, 20, 21] [(9, .slice (some ⟨b52, o52, none⟩) (((((bldC xs (min xs.length 100))).filter (fun c : Ci => c.a == a)).map (fun c : Ci => (c.b, c.v))).length) capk17), (10, .slice Av17 (((((bldC xs (min xs.length 100))).filter (fun c : Ci => c.a == a)).map (fun c : Ci => (c.b, c.v))).length) capv17), (12, .slice Ak27 (((((bldC xs (min xs.length 100))).filter (fun c : Ci => c.b == b)).map (fun c : Ci => (c.a, c.v))).length) capk27), (13, .slice Av27 (((((bldC xs (min xs.length 100))).filter (fun c : Ci => c.b == b)).map (fun c : Ci => (c.a, c.v))).length) capv27), (15, .slice (some ⟨b57, o57, none⟩) (((bldC xs (min xs.length 100)).filter (fun c : Ci => c.a == a)).length) capP31), (16, .slice P35 (((bldC xs (min xs.length 100)).filter (fun c : Ci => c.b == b)).length) capP35), (17, .int .i64 ((i : Nat) : Int)), (101, .bool (!(decide (x55 = x60.b))))] (by kernel_rfl) ?_
      refine GI_eq [(9, .slice (some ⟨b52, o52, none⟩) (((((bldC xs (min xs.length 100))).filter (fun c : Ci => c.a == a)).map (fun c : Ci => (c.b, c.v))).length) capk17), (10, .slice Av17 (((((bldC xs (min xs.length 100))).filter (fun c : Ci => c.a == a)).map (fun c : Ci => (c.b, c.v))).length) capv17), (12, .slice Ak27 (((((bldC xs (min xs.length 100))).filter (fun c : Ci => c.b == b)).map (fun c : Ci => (c.a, c.v))).length) capk27), (13, .slice Av27 (((((bldC xs (min xs.length 100))).filter (fun c : Ci => c.b == b)).map (fun c : Ci => (c.a, c.v))).length) capv27), (15, .slice (some ⟨b57, o57, none⟩) (((bldC xs (min xs.length 100)).filter (fun c : Ci => c.a == a)).length) capP31), (16, .slice P35 (((bldC xs (min xs.length 100)).filter (fun c : Ci => c.b == b)).length) capP35), (17, .int .i64 ((i : Nat) : Int)), (101, .bool false)] (by rw [decide_eq_true (by have h9 := hx56; rw [List.getElem?_map, List.getElem?_map, hx61] at h9; exact (Option.some.inj h9).symm : x55 = x60.b)]; rfl) ?_
      refine GI_static [13, 14, 15, 16, 17, 18, 19, 20, 21] [(9, .slice (some ⟨b52, o52, none⟩) (((((bldC xs (min xs.length 100))).filter (fun c : Ci => c.a == a)).map (fun c : Ci => (c.b, c.v))).length) capk17), (10, .slice Av17 (((((bldC xs (min xs.length 100))).filter (fun c : Ci => c.a == a)).map (fun c : Ci => (c.b, c.v))).length) capv17), (12, .slice Ak27 (((((bldC xs (min xs.length 100))).filter (fun c : Ci => c.b == b)).map (fun c : Ci => (c.a, c.v))).length) capk27), (13, .slice Av27 (((((bldC xs (min xs.length 100))).filter (fun c : Ci => c.b == b)).map (fun c : Ci => (c.a, c.v))).length) capv27), (15, .slice (some ⟨b57, o57, none⟩) (((bldC xs (min xs.length 100)).filter (fun c : Ci => c.a == a)).length) capP31), (16, .slice P35 (((bldC xs (min xs.length 100)).filter (fun c : Ci => c.b == b)).length) capP35), (17, .int .i64 ((i : Nat) : Int)), (101, .bool false), (102, .slice Av17 (((((bldC xs (min xs.length 100))).filter (fun c : Ci => c.a == a)).map (fun c : Ci => (c.b, c.v))).length) capv17), (103, .int .i64 ((i : Nat) : Int))] (by kernel_rfl) ?_
      obtain ⟨b63, o63, L63, T63, rfl, hat63⟩ := SlT.open_ hAv17 (by first | omega | (simp only [List.length_map]; omega) | (simp; done) | (simp; omega))
      have hb63lt := hat63.blk.lt
      have hob64 := owAv17 b63 ⟨_, rfl, rfl⟩
      have hob65 := ltAv17 b63 ⟨_, rfl, rfl⟩
      refine GI_pure (some 104) (.indexAddr 30 (.tmp 102) (.tmp 103)) (by kernel_rfl) (by kernel_rfl) (pure_idxN (b := b63) (o := o63) (len := ((((bldC xs (min xs.length 100))).filter (fun c : Ci => c.a == a)).map (fun c : Ci => (c.b, c.v))).length) (cap := capv17) (kd := .i64) (j := i) (E := 3) (sz := 1) (by_ := 8) (by kernel_rfl) (by kernel_rfl) (by kernel_rfl) (by omega)) ?_
      obtain ⟨x66, hx67⟩ : ∃ x, (((((bldC xs (min xs.length 100))).filter (fun c : Ci => c.a == a)).map (fun c : Ci => (c.b, c.v))).map (·.2))[i]? = some x := ⟨_, List.getElem?_eq_getElem (by first | omega | (simp only [List.length_map]; omega))⟩
      refine GI_cell 3 (.tmp 104) (o63 + i * 1) (.int .i64 x66) (some 105) (by kernel_rfl) (by kernel_rfl) (by kernel_rfl) hat63.blk (fun f => f) (m := 1) (by kernel_rfl) (At.cell0 hat63 (es_at hx67) rfl) ?_
      refine GI_static [17, 18, 19, 20, 21] [(9, .slice (some ⟨b52, o52, none⟩) (((((bldC xs (min xs.length 100))).filter (fun c : Ci => c.a == a)).map (fun c : Ci => (c.b, c.v))).length) capk17), (10, .slice (some ⟨b63, o63, none⟩) (((((bldC xs (min xs.length 100))).filter (fun c : Ci => c.a == a)).map (fun c : Ci => (c.b, c.v))).length) capv17), (12, .slice Ak27 (((((bldC xs (min xs.length 100))).filter (fun c : Ci => c.b == b)).map (fun c : Ci => (c.a, c.v))).length) capk27), (13, .slice Av27 (((((bldC xs (min xs.length 100))).filter (fun c : Ci => c.b == b)).map (fun c : Ci => (c.a, c.v))).length) capv27), (15, .slice (some ⟨b57, o57, none⟩) (((bldC xs (min xs.length 100)).filter (fun c : Ci => c.a == a)).length) capP31), (16, .slice P35 (((bldC xs (min xs.length 100)).filter (fun c : Ci => c.b == b)).length) capP35), (17, .int .i64 ((i : Nat) : Int)), (101, .bool false), (102, .slice (some ⟨b63, o63, none⟩) (((((bldC xs (min xs.length 100))).filter (fun c : Ci => c.a == a)).map (fun c : Ci => (c.b, c.v))).length) capv17), (103, .int .i64 ((i : Nat) : Int)), (104, .pointer (some ⟨b63, o63 + i * 1, none⟩)), (105, .int .i64 x66), (106, .slice (some ⟨b57, o57, none⟩) (((bldC xs (min xs.length 100)).filter (fun c : Ci => c.a == a)).length) capP31), (107, .int .i64 ((i : Nat) : Int))] (by kernel_rfl) ?_
      refine GI_pure (some 108) (.indexAddr 47 (.tmp 106) (.tmp 107)) (by kernel_rfl) (by kernel_rfl) (pure_idxN (b := b57) (o := o57) (len := ((bldC xs (min xs.length 100)).filter (fun c : Ci => c.a == a)).length) (cap := capP31) (kd := .i64) (j := i) (E := 59) (sz := 3) (by_ := 24) (by kernel_rfl) (by kernel_rfl) (by kernel_rfl) (by omega)) ?_
      refine GI_static [19, 20, 21] [(9, .slice (some ⟨b52, o52, none⟩) (((((bldC xs (min xs.length 100))).filter (fun c : Ci => c.a == a)).map (fun c : Ci => (c.b, c.v))).length) capk17), (10, .slice (some ⟨b63, o63, none⟩) (((((bldC xs (min xs.length 100))).filter (fun c : Ci => c.a == a)).map (fun c : Ci => (c.b, c.v))).length) capv17), (12, .slice Ak27 (((((bldC xs (min xs.length 100))).filter (fun c : Ci => c.b == b)).map (fun c : Ci => (c.a, c.v))).length) capk27), (13, .slice Av27 (((((bldC xs (min xs.length 100))).filter (fun c : Ci => c.b == b)).map (fun c : Ci => (c.a, c.v))).length) capv27), (15, .slice (some ⟨b57, o57, none⟩) (((bldC xs (min xs.length 100)).filter (fun c : Ci => c.a == a)).length) capP31), (16, .slice P35 (((bldC xs (min xs.length 100)).filter (fun c : Ci => c.b == b)).length) capP35), (17, .int .i64 ((i : Nat) : Int)), (101, .bool false), (102, .slice (some ⟨b63, o63, none⟩) (((((bldC xs (min xs.length 100))).filter (fun c : Ci => c.a == a)).map (fun c : Ci => (c.b, c.v))).length) capv17), (103, .int .i64 ((i : Nat) : Int)), (104, .pointer (some ⟨b63, o63 + i * 1, none⟩)), (105, .int .i64 x66), (106, .slice (some ⟨b57, o57, none⟩) (((bldC xs (min xs.length 100)).filter (fun c : Ci => c.a == a)).length) capP31), (107, .int .i64 ((i : Nat) : Int)), (108, .pointer (some ⟨b57, o57 + i * 3, none⟩)), (109, .pointer (some ⟨b57, o57 + i * 3 + 2, none⟩))] (by kernel_rfl) ?_
      refine GI_cell 3 (.tmp 109) (o57 + i * 3 + 2) (.int .i64 x60.v) (some 110) (by kernel_rfl) (by kernel_rfl) (by kernel_rfl) hat57.blk (fun f => f) (m := 1) (by kernel_rfl) (At.cell hat57 (es_at hx61) rfl) ?_
      refine GI_static [] [(9, .slice (some ⟨b52, o52, none⟩) (((((bldC xs (min xs.length 100))).filter (fun c : Ci => c.a == a)).map (fun c : Ci => (c.b, c.v))).length) capk17), (10, .slice (some ⟨b63, o63, none⟩) (((((bldC xs (min xs.length 100))).filter (fun c : Ci => c.a == a)).map (fun c : Ci => (c.b, c.v))).length) capv17), (12, .slice Ak27 (((((bldC xs (min xs.length 100))).filter (fun c : Ci => c.b == b)).map (fun c : Ci => (c.a, c.v))).length) capk27), (13, .slice Av27 (((((bldC xs (min xs.length 100))).filter (fun c : Ci => c.b == b)).map (fun c : Ci => (c.a, c.v))).length) capv27), (15, .slice (some ⟨b57, o57, none⟩) (((bldC xs (min xs.length 100)).filter (fun c : Ci => c.a == a)).length) capP31), (16, .slice P35 (((bldC xs (min xs.length 100)).filter (fun c : Ci => c.b == b)).length) capP35), (17, .int .i64 ((i : Nat) : Int)), (102, .slice (some ⟨b63, o63, none⟩) (((((bldC xs (min xs.length 100))).filter (fun c : Ci => c.a == a)).map (fun c : Ci => (c.b, c.v))).length) capv17), (103, .int .i64 ((i : Nat) : Int)), (104, .pointer (some ⟨b63, o63 + i * 1, none⟩)), (105, .int .i64 x66), (106, .slice (some ⟨b57, o57, none⟩) (((bldC xs (min xs.length 100)).filter (fun c : Ci => c.a == a)).length) capP31), (107, .int .i64 ((i : Nat) : Int)), (108, .pointer (some ⟨b57, o57 + i * 3, none⟩)), (109, .pointer (some ⟨b57, o57 + i * 3 + 2, none⟩)), (110, .int .i64 x60.v), (111, .bool (!(decide (x66 = x60.v)))), (112, .bool (!(decide (x66 = x60.v))))] (by kernel_rfl) ?_
      refine GI_end ?_
      refine X_then ?_
      refine V_eq [(9, .slice (some ⟨b52, o52, none⟩) (((((bldC xs (min xs.length 100))).filter (fun c : Ci => c.a == a)).map (fun c : Ci => (c.b, c.v))).length) capk17), (10, .slice (some ⟨b63, o63, none⟩) (((((bldC xs (min xs.length 100))).filter (fun c : Ci => c.a == a)).map (fun c : Ci => (c.b, c.v))).length) capv17), (12, .slice Ak27 (((((bldC xs (min xs.length 100))).filter (fun c : Ci => c.b == b)).map (fun c : Ci => (c.a, c.v))).length) capk27), (13, .slice Av27 (((((bldC xs (min xs.length 100))).filter (fun c : Ci => c.b == b)).map (fun c : Ci => (c.a, c.v))).length) capv27), (15, .slice (some ⟨b57, o57, none⟩) (((bldC xs (min xs.length 100)).filter (fun c : Ci => c.a == a)).length) capP31), (16, .slice P35 (((bldC xs (min xs.length 100)).filter (fun c : Ci => c.b == b)).length) capP35), (17, .int .i64 ((i : Nat) : Int)), (102, .slice (some ⟨b63, o63, none⟩) (((((bldC xs (min xs.length 100))).filter (fun c : Ci => c.a == a)).map (fun c : Ci => (c.b, c.v))).length) capv17), (103, .int .i64 ((i : Nat) : Int)), (104, .pointer (some ⟨b63, o63 + i * 1, none⟩)), (105, .int .i64 x66), (106, .slice (some ⟨b57, o57, none⟩) (((bldC xs (min xs.length 100)).filter (fun c : Ci => c.a == a)).length) capP31), (107, .int .i64 ((i : Nat) : Int)), (108, .pointer (some ⟨b57, o57 + i * 3, none⟩)), (109, .pointer (some ⟨b57, o57 + i * 3 + 2, none⟩)), (110, .int .i64 x60.v), (111, .bool (!(decide (x66 = x60.v)))), (112, .bool false)] (by rw [decide_eq_true (by have h9 := hx67; rw [List.getElem?_map, List.getElem?_map, hx61] at h9; exact (Option.some.inj h9).symm : x66 = x60.v)]; rfl) ?_
      refine V_false rfl ?_
      refine V_skip ?_
      refine X_block ?_
      refine X_then ?_
      refine V_region ?_
      have hw69 : IntKind.i64.wrap (((i : Nat) : Int) + 1) = ((i + 1 : Nat) : Int) := (wrap64_id (by omega) (by omega)).trans (by omega)
      refine OI_static 2 [(9, .slice (some ⟨b52, o52, none⟩) (((((bldC xs (min xs.length 100))).filter (fun c : Ci => c.a == a)).map (fun c : Ci => (c.b, c.v))).length) capk17), (10, .slice (some ⟨b63, o63, none⟩) (((((bldC xs (min xs.length 100))).filter (fun c : Ci => c.a == a)).map (fun c : Ci => (c.b, c.v))).length) capv17), (12, .slice Ak27 (((((bldC xs (min xs.length 100))).filter (fun c : Ci => c.b == b)).map (fun c : Ci => (c.a, c.v))).length) capk27), (13, .slice Av27 (((((bldC xs (min xs.length 100))).filter (fun c : Ci => c.b == b)).map (fun c : Ci => (c.a, c.v))).length) capv27), (15, .slice (some ⟨b57, o57, none⟩) (((bldC xs (min xs.length 100)).filter (fun c : Ci => c.a == a)).length) capP31), (16, .slice P35 (((bldC xs (min xs.length 100)).filter (fun c : Ci => c.b == b)).length) capP35), (90, .int .i64 (IntKind.i64.wrap (((i : Nat) : Int) + 1))), (102, .slice (some ⟨b63, o63, none⟩) (((((bldC xs (min xs.length 100))).filter (fun c : Ci => c.a == a)).map (fun c : Ci => (c.b, c.v))).length) capv17), (103, .int .i64 ((i : Nat) : Int)), (104, .pointer (some ⟨b63, o63 + i * 1, none⟩)), (105, .int .i64 x66), (106, .slice (some ⟨b57, o57, none⟩) (((bldC xs (min xs.length 100)).filter (fun c : Ci => c.a == a)).length) capP31), (107, .int .i64 ((i : Nat) : Int)), (108, .pointer (some ⟨b57, o57 + i * 3, none⟩)), (109, .pointer (some ⟨b57, o57 + i * 3 + 2, none⟩)), (110, .int .i64 x60.v), (111, .bool (!(decide (x66 = x60.v))))] (by kernel_rfl) ?_
      refine OI_eq [(9, .slice (some ⟨b52, o52, none⟩) (((((bldC xs (min xs.length 100))).filter (fun c : Ci => c.a == a)).map (fun c : Ci => (c.b, c.v))).length) capk17), (10, .slice (some ⟨b63, o63, none⟩) (((((bldC xs (min xs.length 100))).filter (fun c : Ci => c.a == a)).map (fun c : Ci => (c.b, c.v))).length) capv17), (12, .slice Ak27 (((((bldC xs (min xs.length 100))).filter (fun c : Ci => c.b == b)).map (fun c : Ci => (c.a, c.v))).length) capk27), (13, .slice Av27 (((((bldC xs (min xs.length 100))).filter (fun c : Ci => c.b == b)).map (fun c : Ci => (c.a, c.v))).length) capv27), (15, .slice (some ⟨b57, o57, none⟩) (((bldC xs (min xs.length 100)).filter (fun c : Ci => c.a == a)).length) capP31), (16, .slice P35 (((bldC xs (min xs.length 100)).filter (fun c : Ci => c.b == b)).length) capP35), (90, .int .i64 ((i + 1 : Nat) : Int)), (102, .slice (some ⟨b63, o63, none⟩) (((((bldC xs (min xs.length 100))).filter (fun c : Ci => c.a == a)).map (fun c : Ci => (c.b, c.v))).length) capv17), (103, .int .i64 ((i : Nat) : Int)), (104, .pointer (some ⟨b63, o63 + i * 1, none⟩)), (105, .int .i64 x66), (106, .slice (some ⟨b57, o57, none⟩) (((bldC xs (min xs.length 100)).filter (fun c : Ci => c.a == a)).length) capP31), (107, .int .i64 ((i : Nat) : Int)), (108, .pointer (some ⟨b57, o57 + i * 3, none⟩)), (109, .pointer (some ⟨b57, o57 + i * 3 + 2, none⟩)), (110, .int .i64 x60.v), (111, .bool (!(decide (x66 = x60.v))))] (by rw [hw69]) ?_
      refine OI_static 3 [(9, .slice (some ⟨b52, o52, none⟩) (((((bldC xs (min xs.length 100))).filter (fun c : Ci => c.a == a)).map (fun c : Ci => (c.b, c.v))).length) capk17), (10, .slice (some ⟨b63, o63, none⟩) (((((bldC xs (min xs.length 100))).filter (fun c : Ci => c.a == a)).map (fun c : Ci => (c.b, c.v))).length) capv17), (12, .slice Ak27 (((((bldC xs (min xs.length 100))).filter (fun c : Ci => c.b == b)).map (fun c : Ci => (c.a, c.v))).length) capk27), (13, .slice Av27 (((((bldC xs (min xs.length 100))).filter (fun c : Ci => c.b == b)).map (fun c : Ci => (c.a, c.v))).length) capv27), (15, .slice (some ⟨b57, o57, none⟩) (((bldC xs (min xs.length 100)).filter (fun c : Ci => c.a == a)).length) capP31), (16, .slice P35 (((bldC xs (min xs.length 100)).filter (fun c : Ci => c.b == b)).length) capP35), (17, .int .i64 ((i + 1 : Nat) : Int)), (102, .slice (some ⟨b63, o63, none⟩) (((((bldC xs (min xs.length 100))).filter (fun c : Ci => c.a == a)).map (fun c : Ci => (c.b, c.v))).length) capv17), (103, .int .i64 ((i : Nat) : Int)), (104, .pointer (some ⟨b63, o63 + i * 1, none⟩)), (105, .int .i64 x66), (106, .slice (some ⟨b57, o57, none⟩) (((bldC xs (min xs.length 100)).filter (fun c : Ci => c.a == a)).length) capP31), (107, .int .i64 ((i : Nat) : Int)), (108, .pointer (some ⟨b57, o57 + i * 3, none⟩)), (109, .pointer (some ⟨b57, o57 + i * 3 + 2, none⟩)), (110, .int .i64 x60.v), (111, .bool (!(decide (x66 = x60.v))))] (by kernel_rfl) ?_
      refine OI_end rfl ?_
      exact V_again (k42 - 1) (by omega) [(9, .slice (some ⟨b52, o52, none⟩) (((((bldC xs (min xs.length 100))).filter (fun c : Ci => c.a == a)).map (fun c : Ci => (c.b, c.v))).length) capk17), (10, .slice (some ⟨b63, o63, none⟩) (((((bldC xs (min xs.length 100))).filter (fun c : Ci => c.a == a)).map (fun c : Ci => (c.b, c.v))).length) capv17), (12, .slice Ak27 (((((bldC xs (min xs.length 100))).filter (fun c : Ci => c.b == b)).map (fun c : Ci => (c.a, c.v))).length) capk27), (13, .slice Av27 (((((bldC xs (min xs.length 100))).filter (fun c : Ci => c.b == b)).map (fun c : Ci => (c.a, c.v))).length) capv27), (15, .slice (some ⟨b57, o57, none⟩) (((bldC xs (min xs.length 100)).filter (fun c : Ci => c.a == a)).length) capP31), (16, .slice P35 (((bldC xs (min xs.length 100)).filter (fun c : Ci => c.b == b)).length) capP35), (17, .int .i64 ((i + 1 : Nat) : Int))] rfl ⟨i + 1, by omega, hk43, rfl⟩
    · skip
      refine V_exit ?_
      refine X_exit_then ?_
      refine X_exit_then ?_
      refine X_exit_here ?_
      refine X_then ?_
      refine V_seq ?_
      refine V_seq ?_
      refine V_region ?_
      refine OI_static 1 [(12, .slice Ak27 (((((bldC xs (min xs.length 100))).filter (fun c : Ci => c.b == b)).map (fun c : Ci => (c.a, c.v))).length) capk27), (13, .slice Av27 (((((bldC xs (min xs.length 100))).filter (fun c : Ci => c.b == b)).map (fun c : Ci => (c.a, c.v))).length) capv27), (16, .slice P35 (((bldC xs (min xs.length 100)).filter (fun c : Ci => c.b == b)).length) capP35), (18, .int .i64 0)] (by kernel_rfl) ?_
      refine OI_end rfl ?_
      refine X_then ?_
      refine V_block ?_
      have hflb : ((bldC xs (min xs.length 100)).filter (fun c : Ci => c.b == b)).length ≤ (bldC xs (min xs.length 100)).length := List.length_filter_le _ _
      refine V_pick [(12, .slice Ak27 (((((bldC xs (min xs.length 100))).filter (fun c : Ci => c.b == b)).map (fun c : Ci => (c.a, c.v))).length) capk27), (13, .slice Av27 (((((bldC xs (min xs.length 100))).filter (fun c : Ci => c.b == b)).map (fun c : Ci => (c.a, c.v))).length) capv27), (16, .slice P35 (((bldC xs (min xs.length 100)).filter (fun c : Ci => c.b == b)).length) capP35), (18, .int .i64 0)] rfl ?_
      refine V_loop (fun k wI e => ∃ i : Nat, (k + i = ((bldC xs (min xs.length 100)).filter (fun c : Ci => c.b == b)).length) ∧ Keep none_ w41 wI ∧ e = [(12, .slice Ak27 (((((bldC xs (min xs.length 100))).filter (fun c : Ci => c.b == b)).map (fun c : Ci => (c.a, c.v))).length) capk27), (13, .slice Av27 (((((bldC xs (min xs.length 100))).filter (fun c : Ci => c.b == b)).map (fun c : Ci => (c.a, c.v))).length) capv27), (16, .slice P35 (((bldC xs (min xs.length 100)).filter (fun c : Ci => c.b == b)).length) capP35), (18, .int .i64 ((i : Nat) : Int))]) (((bldC xs (min xs.length 100)).filter (fun c : Ci => c.b == b)).length) ⟨0, by omega, Keep.refl _ _, rfl⟩ ?_
      rintro k71 w70 _ ⟨i, hki, hk72, rfl⟩
      have hsz73 := Keep.size hk72
      replace hbg11 := hbg11.keep hk72 (fun f => f)
      have hbg11lt := hbg11.lt
      replace hbs12 := hbs12.keep hk72 (fun f => f)
      have hbs12lt := hbs12.lt
      replace hbn13 := hbn13.keep hk72 (fun f => f)
      have hbn13lt := hbn13.lt
      replace hbg21 := hbg21.keep hk72 (fun f => f)
      have hbg21lt := hbg21.lt
      replace hbs22 := hbs22.keep hk72 (fun f => f)
      have hbs22lt := hbs22.lt
      replace hbn23 := hbn23.keep hk72 (fun f => f)
      have hbn23lt := hbn23.lt
      replace hA := ArgT.keep0 hA hk72
      replace hAk17 := SlT.keep0 hAk17 hk72
      replace hAv17 := SlT.keep0 hAv17 hk72
      replace hAk27 := SlT.keep0 hAk27 hk72
      replace hAv27 := SlT.keep0 hAv27 hk72
      replace hAP31 := SlT.keep0 hAP31 hk72
      replace hAP35 := SlT.keep0 hAP35 hk72
      replace hK0 := Keep.tr hK0 (Keep.ofNone hk72); have hzhK0 := Keep.size hK0
      replace ho1 := Grd.keep ho1 hk72 (fun _ _ f => f)
      replace ho2 := Rgd.keep ho2 hk72 (fun _ _ f => f)
      have hzhk72 := Keep.size hk72
      have hlq1 : ((((bldC xs (min xs.length 100)).filter (fun c : Ci => c.b == b)).map (fun c : Ci => (c.a, c.v))).map (·.1)).length = ((bldC xs (min xs.length 100)).filter (fun c : Ci => c.b == b)).length := by simp
      have hlq2 : (((bldC xs (min xs.length 100)).filter (fun c : Ci => c.b == b)).map (fun c : Ci => (c.a, c.v))).length = ((bldC xs (min xs.length 100)).filter (fun c : Ci => c.b == b)).length := by simp
      refine V_seq ?_
      refine V_seq ?_
      refine V_region ?_
      refine OI_static 4 [(12, .slice Ak27 (((((bldC xs (min xs.length 100))).filter (fun c : Ci => c.b == b)).map (fun c : Ci => (c.a, c.v))).length) capk27), (13, .slice Av27 (((((bldC xs (min xs.length 100))).filter (fun c : Ci => c.b == b)).map (fun c : Ci => (c.a, c.v))).length) capv27), (16, .slice P35 (((bldC xs (min xs.length 100)).filter (fun c : Ci => c.b == b)).length) capP35), (18, .int .i64 ((i : Nat) : Int)), (116, .bool (decide (((i : Nat) : Int) < ((((bldC xs (min xs.length 100)).filter (fun c : Ci => c.b == b)).length : Nat) : Int))))] (by kernel_rfl) ?_
      refine OI_end rfl ?_
      refine X_then ?_
      refine V_if (((i : Nat) : Int) < ((((bldC xs (min xs.length 100)).filter (fun c : Ci => c.b == b)).length : Nat) : Int)) (by kernel_rfl) (fun hc74 => ?_) (fun hc74 => ?_)
      · skip
        refine V_skip ?_
        refine X_then ?_
        refine V_seq ?_
        refine V_block ?_
        refine V_seq ?_
        refine V_draws (acts []) none_ [[0, 1, 2, 3, 4, 5, 6, 7, 8, 9, 10, 11, 12, 13, 14, 15, 16, 17, 18, 19, 20, 21]] (by kernel_rfl) (by repeat first | exact sure_body (by rintro _ _ ⟨h, _⟩; exact ⟨_, h⟩) | refine sure_then ?_ | refine sure_block ?_ | refine sure_join ?_) (by kernel_rfl) ?_
        intro w76 hk75 he77 L hL78
        have hsz79 := Keep.size hk75
        replace hbg11 := hbg11.keep hk75 (fun f => f)
        have hbg11lt := hbg11.lt
        replace hbs12 := hbs12.keep hk75 (fun f => f)
        have hbs12lt := hbs12.lt
        replace hbn13 := hbn13.keep hk75 (fun f => f)
        have hbn13lt := hbn13.lt
        replace hbg21 := hbg21.keep hk75 (fun f => f)
        have hbg21lt := hbg21.lt
        replace hbs22 := hbs22.keep hk75 (fun f => f)
        have hbs22lt := hbs22.lt
        replace hbn23 := hbn23.keep hk75 (fun f => f)
        have hbn23lt := hbn23.lt
        replace hA := ArgT.keep0 hA hk75
        replace hAk17 := SlT.keep0 hAk17 hk75
        replace hAv17 := SlT.keep0 hAv17 hk75
        replace hAk27 := SlT.keep0 hAk27 hk75
        replace hAv27 := SlT.keep0 hAv27 hk75
        replace hAP31 := SlT.keep0 hAP31 hk75
        replace hAP35 := SlT.keep0 hAP35 hk75
        replace hK0 := Keep.tr hK0 (Keep.ofNone hk75); have hzhK0 := Keep.size hK0
        replace ho1 := Grd.keep ho1 hk75 (fun _ _ f => f)
        replace ho2 := Rgd.keep ho2 hk75 (fun _ _ f => f)
        replace hk72 := Keep.tr hk72 (Keep.ofNone hk75); have hzhk72 := Keep.size hk72
        have qhbg11 := hbg11
        have qhbs12 := hbs12
        have qhbn13 := hbn13
        have qhbg21 := hbg21
        have qhbs22 := hbs22
        have qhbn23 := hbn23
        have K80 : Keep none_ w76 w76 := Keep.refl _ _
        obtain rfl := List.mem_singleton.1 hL78
        refine GI_static [2, 3, 4, 5, 6, 7, 8, 9, 10, 11, 12, 13, 14, 15, 16, 17, 18, 19, 20, 21] [(12, .slice Ak27 (((((bldC xs (min xs.length 100))).filter (fun c : Ci => c.b == b)).map (fun c : Ci => (c.a, c.v))).length) capk27), (13, .slice Av27 (((((bldC xs (min xs.length 100))).filter (fun c : Ci => c.b == b)).map (fun c : Ci => (c.a, c.v))).length) capv27), (16, .slice P35 (((bldC xs (min xs.length 100)).filter (fun c : Ci => c.b == b)).length) capP35), (18, .int .i64 ((i : Nat) : Int)), (119, .slice Ak27 (((((bldC xs (min xs.length 100))).filter (fun c : Ci => c.b == b)).map (fun c : Ci => (c.a, c.v))).length) capk27), (120, .int .i64 ((i : Nat) : Int))] (by kernel_rfl) ?_
        obtain ⟨b81, o81, L81, T81, rfl, hat81⟩ := SlT.open_ hAk27 (by first | omega | (simp only [List.length_map]; omega) | (simp; done) | (simp; omega))
        have hb81lt := hat81.blk.lt
        have hob82 := owAk27 b81 ⟨_, rfl, rfl⟩
        have hob83 := ltAk27 b81 ⟨_, rfl, rfl⟩
        refine GI_pure (some 121) (.indexAddr 30 (.tmp 119) (.tmp 120)) (by kernel_rfl) (by kernel_rfl) (pure_idxN (b := b81) (o := o81) (len := ((((bldC xs (min xs.length 100))).filter (fun c : Ci => c.b == b)).map (fun c : Ci => (c.a, c.v))).length) (cap := capk27) (kd := .i64) (j := i) (E := 3) (sz := 1) (by_ := 8) (by kernel_rfl) (by kernel_rfl) (by kernel_rfl) (by omega)) ?_
        obtain ⟨x84, hx85⟩ : ∃ x, (((((bldC xs (min xs.length 100))).filter (fun c : Ci => c.b == b)).map (fun c : Ci => (c.a, c.v))).map (·.1))[i]? = some x := ⟨_, List.getElem?_eq_getElem (by first | omega | (simp only [List.length_map]; omega))⟩
        refine GI_cell 3 (.tmp 121) (o81 + i * 1) (.int .i64 x84) (some 122) (by kernel_rfl) (by kernel_rfl) (by kernel_rfl) hat81.blk (fun f => f) (m := 1) (by kernel_rfl) (At.cell0 hat81 (es_at hx85) rfl) ?_
        refine GI_static [6, 7, 8, 9, 10, 11, 12, 13, 14, 15, 16, 17, 18, 19, 20, 21] [(12, .slice (some ⟨b81, o81, none⟩) (((((bldC xs (min xs.length 100))).filter (fun c : Ci => c.b == b)).map (fun c : Ci => (c.a, c.v))).length) capk27), (13, .slice Av27 (((((bldC xs (min xs.length 100))).filter (fun c : Ci => c.b == b)).map (fun c : Ci => (c.a, c.v))).length) capv27), (16, .slice P35 (((bldC xs (min xs.length 100)).filter (fun c : Ci => c.b == b)).length) capP35), (18, .int .i64 ((i : Nat) : Int)), (122, .int .i64 x84), (123, .slice P35 (((bldC xs (min xs.length 100)).filter (fun c : Ci => c.b == b)).length) capP35), (124, .int .i64 ((i : Nat) : Int))] (by kernel_rfl) ?_
        obtain ⟨b86, o86, L86, T86, rfl, hat86⟩ := SlT.open_ hAP35 (by first | omega | (simp only [List.length_map]; omega) | (simp; done) | (simp; omega))
        have hb86lt := hat86.blk.lt
        have hob87 := owP35 b86 ⟨_, rfl, rfl⟩
        have hob88 := ltP35 b86 ⟨_, rfl, rfl⟩
        refine GI_pure (some 125) (.indexAddr 47 (.tmp 123) (.tmp 124)) (by kernel_rfl) (by kernel_rfl) (pure_idxN (b := b86) (o := o86) (len := ((bldC xs (min xs.length 100)).filter (fun c : Ci => c.b == b)).length) (cap := capP35) (kd := .i64) (j := i) (E := 59) (sz := 3) (by_ := 24) (by kernel_rfl) (by kernel_rfl) (by kernel_rfl) (by omega)) ?_
        refine GI_static [8, 9, 10, 11, 12, 13, 14, 15, 16, 17, 18, 19, 20, 21] [(12, .slice (some ⟨b81, o81, none⟩) (((((bldC xs (min xs.length 100))).filter (fun c : Ci => c.b == b)).map (fun c : Ci => (c.a, c.v))).length) capk27), (13, .slice Av27 (((((bldC xs (min xs.length 100))).filter (fun c : Ci => c.b == b)).map (fun c : Ci => (c.a, c.v))).length) capv27), (16, .slice (some ⟨b86, o86, none⟩) (((bldC xs (min xs.length 100)).filter (fun c : Ci => c.b == b)).length) capP35), (18, .int .i64 ((i : Nat) : Int)), (122, .int .i64 x84), (126, .pointer (some ⟨b86, o86 + i * 3, none⟩))] (by kernel_rfl) ?_
        obtain ⟨x89, hx90⟩ : ∃ x, ((bldC xs (min xs.length 100)).filter (fun c : Ci => c.b == b))[i]? = some x := ⟨_, List.getElem?_eq_getElem (by first | omega | (simp only [List.length_map]; omega))⟩
        refine GI_cell 3 (.tmp 126) (o86 + i * 3) (.int .i64 x89.a) (some 127) (by kernel_rfl) (by kernel_rfl) (by kernel_rfl) hat86.blk (fun f => f) (m := 1) (by kernel_rfl) (At.cell0 hat86 (es_at hx90) rfl) ?_
        refine GI_static [11, 12, 13, 14, 15, 16, 17, 18, 19, 20, 21] [(12, .slice (some ⟨b81, o81, none⟩) (((((bldC xs (min xs.length 100))).filter (fun c : Ci => c.b == b)).map (fun c : Ci => (c.a, c.v))).length) capk27), (13, .slice Av27 (((((bldC xs (min xs.length 100))).filter (fun c : Ci => c.b == b)).map (fun c : Ci => (c.a, c.v))).length) capv27), (16, .slice (some ⟨b86, o86, none⟩) (((bldC xs (min xs.length 100)).filter (fun c : Ci => c.b == b)).length) capP35), (18, .int .i64 ((i : Nat) : Int)), (129, .bool (!(decide (x84 = x89.a))))] (by kernel_rfl) ?_
        refine GI_eq [(12, .slice (some ⟨b81, o81, none⟩) (((((bldC xs (min xs.length 100))).filter (fun c : Ci => c.b == b)).map (fun c : Ci => (c.a, c.v))).length) capk27), (13, .slice Av27 (((((bldC xs (min xs.length 100))).filter (fun c : Ci => c.b == b)).map (fun c : Ci => (c.a, c.v))).length) capv27), (16, .slice (some ⟨b86, o86, none⟩) (((bldC xs (min xs.length 100)).filter (fun c : Ci => c.b == b)).length) capP35), (18, .int .i64 ((i : Nat) : Int)), (129, .bool false)] (by rw [decide_eq_true (by have h9 := hx85; rw [List.getElem?_map, List.getElem?_map, hx90] at h9; exact (Option.some.inj h9).symm : x84 = x89.a)]; rfl) ?_
        refine GI_static [13, 14, 15, 16, 17, 18, 19, 20, 21] [(12, .slice (some ⟨b81, o81, none⟩) (((((bldC xs (min xs.length 100))).filter (fun c : Ci => c.b == b)).map (fun c : Ci => (c.a, c.v))).length) capk27), (13, .slice Av27 (((((bldC xs (min xs.length 100))).filter (fun c : Ci => c.b == b)).map (fun c : Ci => (c.a, c.v))).length) capv27), (16, .slice (some ⟨b86, o86, none⟩) (((bldC xs (min xs.length 100)).filter (fun c : Ci => c.b == b)).length) capP35), (18, .int .i64 ((i : Nat) : Int)), (129, .bool false), (130, .slice Av27 (((((bldC xs (min xs.length 100))).filter (fun c : Ci => c.b == b)).map (fun c : Ci => (c.a, c.v))).length) capv27), (131, .int .i64 ((i : Nat) : Int))] (by kernel_rfl) ?_
        obtain ⟨b92, o92, L92, T92, rfl, hat92⟩ := SlT.open_ hAv27 (by first | omega | (simp only [List.length_map]; omega) | (simp; done) | (simp; omega))
        have hb92lt := hat92.blk.lt
        have hob93 := owAv27 b92 ⟨_, rfl, rfl⟩
        have hob94 := ltAv27 b92 ⟨_, rfl, rfl⟩
        refine GI_pure (some 132) (.indexAddr 30 (.tmp 130) (.tmp 131)) (by kernel_rfl) (by kernel_rfl) (pure_idxN (b := b92) (o := o92) (len := ((((bldC xs (min xs.length 100))).filter (fun c : Ci => c.b == b)).map (fun c : Ci => (c.a, c.v))).length) (cap := capv27) (kd := .i64) (j := i) (E := 3) (sz := 1) (by_ := 8) (by kernel_rfl) (by kernel_rfl) (by kernel_rfl) (by omega)) ?_
        obtain ⟨x95, hx96⟩ : ∃ x, (((((bldC xs (min xs.length 100))).filter (fun c : Ci => c.b == b)).map (fun c : Ci => (c.a, c.v))).map (·.2))[i]? = some x := ⟨_, List.getElem?_eq_getElem (by first | omega | (simp only [List.length_map]; omega))⟩
        refine GI_cell 3 (.tmp 132) (o92 + i * 1) (.int .i64 x95) (some 133) (by kernel_rfl) (by kernel_rfl) (by kernel_rfl) hat92.blk (fun f => f) (m := 1) (by kernel_rfl) (At.cell0 hat92 (es_at hx96) rfl) ?_
        refine GI_static [17, 18, 19, 20, 21] [(12, .slice (some ⟨b81, o81, none⟩) (((((bldC xs (min xs.length 100))).filter (fun c : Ci => c.b == b)).map (fun c : Ci => (c.a, c.v))).length) capk27), (13, .slice (some ⟨b92, o92, none⟩) (((((bldC xs (min xs.length 100))).filter (fun c : Ci => c.b == b)).map (fun c : Ci => (c.a, c.v))).length) capv27), (16, .slice (some ⟨b86, o86, none⟩) (((bldC xs (min xs.length 100)).filter (fun c : Ci => c.b == b)).length) capP35), (18, .int .i64 ((i : Nat) : Int)), (129, .bool false), (130, .slice (some ⟨b92, o92, none⟩) (((((bldC xs (min xs.length 100))).filter (fun c : Ci => c.b == b)).map (fun c : Ci => (c.a, c.v))).length) capv27), (131, .int .i64 ((i : Nat) : Int)), (132, .pointer (some ⟨b92, o92 + i * 1, none⟩)), (133, .int .i64 x95), (134, .slice (some ⟨b86, o86, none⟩) (((bldC xs (min xs.length 100)).filter (fun c : Ci => c.b == b)).length) capP35), (135, .int .i64 ((i : Nat) : Int))] (by kernel_rfl) ?_
        refine GI_pure (some 136) (.indexAddr 47 (.tmp 134) (.tmp 135)) (by kernel_rfl) (by kernel_rfl) (pure_idxN (b := b86) (o := o86) (len := ((bldC xs (min xs.length 100)).filter (fun c : Ci => c.b == b)).length) (cap := capP35) (kd := .i64) (j := i) (E := 59) (sz := 3) (by_ := 24) (by kernel_rfl) (by kernel_rfl) (by kernel_rfl) (by omega)) ?_
        refine GI_static [19, 20, 21] [(12, .slice (some ⟨b81, o81, none⟩) (((((bldC xs (min xs.length 100))).filter (fun c : Ci => c.b == b)).map (fun c : Ci => (c.a, c.v))).length) capk27), (13, .slice (some ⟨b92, o92, none⟩) (((((bldC xs (min xs.length 100))).filter (fun c : Ci => c.b == b)).map (fun c : Ci => (c.a, c.v))).length) capv27), (16, .slice (some ⟨b86, o86, none⟩) (((bldC xs (min xs.length 100)).filter (fun c : Ci => c.b == b)).length) capP35), (18, .int .i64 ((i : Nat) : Int)), (129, .bool false), (130, .slice (some ⟨b92, o92, none⟩) (((((bldC xs (min xs.length 100))).filter (fun c : Ci => c.b == b)).map (fun c : Ci => (c.a, c.v))).length) capv27), (131, .int .i64 ((i : Nat) : Int)), (132, .pointer (some ⟨b92, o92 + i * 1, none⟩)), (133, .int .i64 x95), (134, .slice (some ⟨b86, o86, none⟩) (((bldC xs (min xs.length 100)).filter (fun c : Ci => c.b == b)).length) capP35), (135, .int .i64 ((i : Nat) : Int)), (136, .pointer (some ⟨b86, o86 + i * 3, none⟩)), (137, .pointer (some ⟨b86, o86 + i * 3 + 2, none⟩))] (by kernel_rfl) ?_
        refine GI_cell 3 (.tmp 137) (o86 + i * 3 + 2) (.int .i64 x89.v) (some 138) (by kernel_rfl) (by kernel_rfl) (by kernel_rfl) hat86.blk (fun f => f) (m := 1) (by kernel_rfl) (At.cell hat86 (es_at hx90) rfl) ?_
        refine GI_static [] [(12, .slice (some ⟨b81, o81, none⟩) (((((bldC xs (min xs.length 100))).filter (fun c : Ci => c.b == b)).map (fun c : Ci => (c.a, c.v))).length) capk27), (13, .slice (some ⟨b92, o92, none⟩) (((((bldC xs (min xs.length 100))).filter (fun c : Ci => c.b == b)).map (fun c : Ci => (c.a, c.v))).length) capv27), (16, .slice (some ⟨b86, o86, none⟩) (((bldC xs (min xs.length 100)).filter (fun c : Ci => c.b == b)).length) capP35), (18, .int .i64 ((i : Nat) : Int)), (130, .slice (some ⟨b92, o92, none⟩) (((((bldC xs (min xs.length 100))).filter (fun c : Ci => c.b == b)).map (fun c : Ci => (c.a, c.v))).length) capv27), (131, .int .i64 ((i : Nat) : Int)), (132, .pointer (some ⟨b92, o92 + i * 1, none⟩)), (133, .int .i64 x95), (134, .slice (some ⟨b86, o86, none⟩) (((bldC xs (min xs.length 100)).filter (fun c : Ci => c.b == b)).length) capP35), (135, .int .i64 ((i : Nat) : Int)), (136, .pointer (some ⟨b86, o86 + i * 3, none⟩)), (137, .pointer (some ⟨b86, o86 + i * 3 + 2, none⟩)), (138, .int .i64 x89.v), (139, .bool (!(decide (x95 = x89.v)))), (140, .bool (!(decide (x95 = x89.v))))] (by kernel_rfl) ?_
        refine GI_end ?_
        refine X_then ?_
        refine V_eq [(12, .slice (some ⟨b81, o81, none⟩) (((((bldC xs (min xs.length 100))).filter (fun c : Ci => c.b == b)).map (fun c : Ci => (c.a, c.v))).length) capk27), (13, .slice (some ⟨b92, o92, none⟩) (((((bldC xs (min xs.length 100))).filter (fun c : Ci => c.b == b)).map (fun c : Ci => (c.a, c.v))).length) capv27), (16, .slice (some ⟨b86, o86, none⟩) (((bldC xs (min xs.length 100)).filter (fun c : Ci => c.b == b)).length) capP35), (18, .int .i64 ((i : Nat) : Int)), (130, .slice (some ⟨b92, o92, none⟩) (((((bldC xs (min xs.length 100))).filter (fun c : Ci => c.b == b)).map (fun c : Ci => (c.a, c.v))).length) capv27), (131, .int .i64 ((i : Nat) : Int)), (132, .pointer (some ⟨b92, o92 + i * 1, none⟩)), (133, .int .i64 x95), (134, .slice (some ⟨b86, o86, none⟩) (((bldC xs (min xs.length 100)).filter (fun c : Ci => c.b == b)).length) capP35), (135, .int .i64 ((i : Nat) : Int)), (136, .pointer (some ⟨b86, o86 + i * 3, none⟩)), (137, .pointer (some ⟨b86, o86 + i * 3 + 2, none⟩)), (138, .int .i64 x89.v), (139, .bool (!(decide (x95 = x89.v)))), (140, .bool false)] (by rw [decide_eq_true (by have h9 := hx96; rw [List.getElem?_map, List.getElem?_map, hx90] at h9; exact (Option.some.inj h9).symm : x95 = x89.v)]; rfl) ?_
        refine V_false rfl ?_
        refine V_skip ?_
        refine X_block ?_
        refine X_then ?_
        refine V_region ?_
        have hw98 : IntKind.i64.wrap (((i : Nat) : Int) + 1) = ((i + 1 : Nat) : Int) := (wrap64_id (by omega) (by omega)).trans (by omega)
        refine OI_static 2 [(12, .slice (some ⟨b81, o81, none⟩) (((((bldC xs (min xs.length 100))).filter (fun c : Ci => c.b == b)).map (fun c : Ci => (c.a, c.v))).length) capk27), (13, .slice (some ⟨b92, o92, none⟩) (((((bldC xs (min xs.length 100))).filter (fun c : Ci => c.b == b)).map (fun c : Ci => (c.a, c.v))).length) capv27), (16, .slice (some ⟨b86, o86, none⟩) (((bldC xs (min xs.length 100)).filter (fun c : Ci => c.b == b)).length) capP35), (118, .int .i64 (IntKind.i64.wrap (((i : Nat) : Int) + 1))), (130, .slice (some ⟨b92, o92, none⟩) (((((bldC xs (min xs.length 100))).filter (fun c : Ci => c.b == b)).map (fun c : Ci => (c.a, c.v))).length) capv27), (131, .int .i64 ((i : Nat) : Int)), (132, .pointer (some ⟨b92, o92 + i * 1, none⟩)), (133, .int .i64 x95), (134, .slice (some ⟨b86, o86, none⟩) (((bldC xs (min xs.length 100)).filter (fun c : Ci => c.b == b)).length) capP35), (135, .int .i64 ((i : Nat) : Int)), (136, .pointer (some ⟨b86, o86 + i * 3, none⟩)), (137, .pointer (some ⟨b86, o86 + i * 3 + 2, none⟩)), (138, .int .i64 x89.v), (139, .bool (!(decide (x95 = x89.v))))] (by kernel_rfl) ?_
        refine OI_eq [(12, .slice (some ⟨b81, o81, none⟩) (((((bldC xs (min xs.length 100))).filter (fun c : Ci => c.b == b)).map (fun c : Ci => (c.a, c.v))).length) capk27), (13, .slice (some ⟨b92, o92, none⟩) (((((bldC xs (min xs.length 100))).filter (fun c : Ci => c.b == b)).map (fun c : Ci => (c.a, c.v))).length) capv27), (16, .slice (some ⟨b86, o86, none⟩) (((bldC xs (min xs.length 100)).filter (fun c : Ci => c.b == b)).length) capP35), (118, .int .i64 ((i + 1 : Nat) : Int)), (130, .slice (some ⟨b92, o92, none⟩) (((((bldC xs (min xs.length 100))).filter (fun c : Ci => c.b == b)).map (fun c : Ci => (c.a, c.v))).length) capv27), (131, .int .i64 ((i : Nat) : Int)), (132, .pointer (some ⟨b92, o92 + i * 1, none⟩)), (133, .int .i64 x95), (134, .slice (some ⟨b86, o86, none⟩) (((bldC xs (min xs.length 100)).filter (fun c : Ci => c.b == b)).length) capP35), (135, .int .i64 ((i : Nat) : Int)), (136, .pointer (some ⟨b86, o86 + i * 3, none⟩)), (137, .pointer (some ⟨b86, o86 + i * 3 + 2, none⟩)), (138, .int .i64 x89.v), (139, .bool (!(decide (x95 = x89.v))))] (by rw [hw98]) ?_
        refine OI_static 3 [(12, .slice (some ⟨b81, o81, none⟩) (((((bldC xs (min xs.length 100))).filter (fun c : Ci => c.b == b)).map (fun c : Ci => (c.a, c.v))).length) capk27), (13, .slice (some ⟨b92, o92, none⟩) (((((bldC xs (min xs.length 100))).filter (fun c : Ci => c.b == b)).map (fun c : Ci => (c.a, c.v))).length) capv27), (16, .slice (some ⟨b86, o86, none⟩) (((bldC xs (min xs.length 100)).filter (fun c : Ci => c.b == b)).length) capP35), (18, .int .i64 ((i + 1 : Nat) : Int)), (130, .slice (some ⟨b92, o92, none⟩) (((((bldC xs (min xs.length 100))).filter (fun c : Ci => c.b == b)).map (fun c : Ci => (c.a, c.v))).length) capv27), (131, .int .i64 ((i : Nat) : Int)), (132, .pointer (some ⟨b92, o92 + i * 1, none⟩)), (133, .int .i64 x95), (134, .slice (some ⟨b86, o86, none⟩) (((bldC xs (min xs.length 100)).filter (fun c : Ci => c.b == b)).length) capP35), (135, .int .i64 ((i : Nat) : Int)), (136, .pointer (some ⟨b86, o86 + i * 3, none⟩)), (137, .pointer (some ⟨b86, o86 + i * 3 + 2, none⟩)), (138, .int .i64 x89.v), (139, .bool (!(decide (x95 = x89.v))))] (by kernel_rfl) ?_
        refine OI_end rfl ?_
        exact V_again (k71 - 1) (by omega) [(12, .slice (some ⟨b81, o81, none⟩) (((((bldC xs (min xs.length 100))).filter (fun c : Ci => c.b == b)).map (fun c : Ci => (c.a, c.v))).length) capk27), (13, .slice (some ⟨b92, o92, none⟩) (((((bldC xs (min xs.length 100))).filter (fun c : Ci => c.b == b)).map (fun c : Ci => (c.a, c.v))).length) capv27), (16, .slice (some ⟨b86, o86, none⟩) (((bldC xs (min xs.length 100)).filter (fun c : Ci => c.b == b)).length) capP35), (18, .int .i64 ((i + 1 : Nat) : Int))] rfl ⟨i + 1, by omega, hk72, rfl⟩
      · skip
        refine V_exit ?_
        refine X_exit_then ?_
        refine X_exit_then ?_
        refine X_exit_here ?_
        refine X_then ?_
        refine V_seq ?_
        refine V_region ?_
        refine OI_call { callee := (Callee.value (Operand.func 14)), args := #[], argTypes := #[] } 14 #[] (some 141) (by kernel_rfl) (by kernel_rfl) (by kernel_rfl) (known_spec _) ?_
        rintro _ w99 ⟨rfl, hk100⟩
        refine ⟨_, rfl, ?_⟩
        have hsz101 := Keep.size hk100
        replace hbg11 := hbg11.keep hk100 (fun f => f)
        have hbg11lt := hbg11.lt
        replace hbs12 := hbs12.keep hk100 (fun f => f)
        have hbs12lt := hbs12.lt
        replace hbn13 := hbn13.keep hk100 (fun f => f)
        have hbn13lt := hbn13.lt
        replace hbg21 := hbg21.keep hk100 (fun f => f)
        have hbg21lt := hbg21.lt
        replace hbs22 := hbs22.keep hk100 (fun f => f)
        have hbs22lt := hbs22.lt
        replace hbn23 := hbn23.keep hk100 (fun f => f)
        have hbn23lt := hbn23.lt
        replace hA := ArgT.keep0 hA hk100
        replace hAk17 := SlT.keep0 hAk17 hk100
        replace hAv17 := SlT.keep0 hAv17 hk100
        replace hAk27 := SlT.keep0 hAk27 hk100
        replace hAv27 := SlT.keep0 hAv27 hk100
        replace hAP31 := SlT.keep0 hAP31 hk100
        replace hAP35 := SlT.keep0 hAP35 hk100
        replace hK0 := Keep.tr hK0 (Keep.ofNone hk100); have hzhK0 := Keep.size hK0
        replace ho1 := Grd.keep ho1 hk100 (fun _ _ f => f)
        replace ho2 := Rgd.keep ho2 hk100 (fun _ _ f => f)
        refine OI_static 2 [(6, .bool true)] (by kernel_rfl) ?_
        refine OI_end rfl ?_
        refine X_then ?_
        refine V_ret ?_
        exact X_return (.bool true) rfl ⟨rfl, hK0⟩

theorem over_GridRows {H : Type} {enc : TypeId × Value → H} {A : Option Addr} {len cap : Nat} {d : DataW H} {ps : List MemPlace} {w : World} (h : DataW.Trod enc Try.prog w 0 (fun _ => true) true 40 (.slice A len cap) d ps) (a b : Int) : Calls Try.prog 7 #[.slice A len cap, .int .i64 a, .int .i64 b] w fun e w' => e = .returned (.bool true) ∧ Keep none_ w w' := by
  obtain ⟨xs, rfl, hA, hl, hc⟩ := read_elems (f := Ac4.cells) (ks := [.int .i64, .int .i64, .int .i64, .int .i64]) (n := 4) (sz := 4) lift_Ac4 Try.underlying40 (by kernel_rfl) (by kernel_rfl) rfl (by decide) h
  exact walk_GridRows A cap xs a b w hA (by unfold maxLen at hc; omega)
end Go.Al
