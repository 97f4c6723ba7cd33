/-
  Put together out of 1 texts: Walks of the laws of grid: a grid of texts beside a map.
-/
import Derived.Test.YtijhhcnahepdlaaGridTextsB2
namespace Go.Al
open Go Go.RowKit Go.Proofs
theorem get_seen {F : Nat → Prop} {g : Nat} {C : List GS.Ci} {M : List (Int × ByteArray)} {az : List Int} {i j : Nat} {x : Int} {w : World} (h : GS.Grd F w g C) (hT : TI az i C M) (hj : j < i) (hx : az[j]? = some x) : Calls Try.prog 17 #[.pointer (some ⟨g, 0, none⟩), .int .i64 x, .int .i64 (gB x)] w fun e w' => e = .returned (.tuple #[.string ((mget x M).getD ⟨#[]⟩), .bool true]) ∧ Keep none_ w w' := by
  have h1 := GS.get_spec F g C x (gB x) w (GS.Grd.gr h)
  rw [hT.get x, hT.seen j x hj hx] at h1
  exact h1
theorem get_no {F : Nat → Prop} {g : Nat} {C : List GS.Ci} {M : List (Int × ByteArray)} {az : List Int} {i : Nat} {w : World} (h : GS.Grd F w g C) (hT : TI az i C M) (a : Int) : Calls Try.prog 17 #[.pointer (some ⟨g, 0, none⟩), .int .i64 a, .int .i64 (-1)] w fun e w' => e = .returned (.tuple #[.string ⟨#[]⟩, .bool false]) ∧ Keep none_ w w' := by
  have h1 := GS.get_spec F g C a (-1) w (GS.Grd.gr h)
  rw [hT.no a] at h1
  exact h1

set_option maxHeartbeats 2000000 in
set_option maxRecDepth 10000 in
theorem walk_GridTexts (A B : Option Addr) (cap capb : Nat) (az : List Int) (ts : List ByteArray) (w : World) (hA0 : ArgT w 1 intc A cap az) (hB0 : ArgT w 1 strc B capb ts) (hcap : az.length ≤ 9223372036854775807) (hcapb : ts.length ≤ 9223372036854775807) : Calls Try.prog 4 #[.slice A az.length cap, .slice B ts.length capb] w fun e w' => e = .returned (.bool true) ∧ Keep none_ w w' := by
  have hA := hA0
  have hB := hB0
  have hK0 : Keep none_ w w := Keep.refl _ _
  have hzhK0 := Keep.size hK0
  refine enterV Try.func4 rfl [.slice A az.length cap, .slice B ts.length capb] 114 rfl rfl rfl ?_
  refine V_pick [(0, .slice A az.length cap), (1, .slice B ts.length capb)] rfl ?_
  refine V_seq ?_
  refine V_region ?_
  refine OI_static 1 [(0, .slice A az.length cap), (1, .slice B ts.length capb)] (by kernel_rfl) ?_
  refine OI_end rfl ?_
  refine X_then ?_
  refine V_seq ?_
  refine V_seq ?_
  refine V_region ?_
  refine OI_static 4 [(0, .slice A az.length cap), (1, .slice B ts.length capb), (16, .bool (decide (((az.length : Nat) : Int) > 60)))] (by kernel_rfl) ?_
  by_cases hg1 : ((az.length : Nat) : Int) > 60
  · skip
    refine OI_eq [(0, .slice A az.length cap), (1, .slice B ts.length capb), (16, .bool true)] (by first | simp [hg1] | rfl) ?_
    refine OI_static 10 [(0, .slice A az.length cap), (1, .slice B ts.length capb), (22, .bool true)] (by kernel_rfl) ?_
    refine OI_end rfl ?_
    refine X_then ?_
    refine V_true rfl ?_
    refine V_seq ?_
    refine V_region ?_
    refine OI_static 1 [(4, .bool true)] (by kernel_rfl) ?_
    refine OI_end rfl ?_
    refine X_then ?_
    refine V_ret ?_
    refine X_ret_then ?_
    exact X_return (.bool true) rfl ⟨rfl, hK0⟩
  · skip
    refine OI_eq [(0, .slice A az.length cap), (1, .slice B ts.length capb), (16, .bool false)] (by first | simp [hg1] | rfl) ?_
    refine OI_static 10 [(0, .slice A az.length cap), (1, .slice B ts.length capb), (22, .bool (decide (((ts.length : Nat) : Int) < ((az.length : Nat) : Int))))] (by kernel_rfl) ?_
    refine OI_end rfl ?_
    refine X_then ?_
    refine V_if (((ts.length : Nat) : Int) < ((az.length : Nat) : Int)) (by kernel_rfl) (fun hc2 => ?_) (fun hc2 => ?_)
    · skip
      refine V_seq ?_
      refine V_region ?_
      refine OI_static 1 [(4, .bool true)] (by kernel_rfl) ?_
      refine OI_end rfl ?_
      refine X_then ?_
      refine V_ret ?_
      refine X_ret_then ?_
      exact X_return (.bool true) rfl ⟨rfl, hK0⟩
    · skip
      refine V_skip ?_
      refine X_then ?_
      refine V_seq ?_
      refine V_region ?_
      refine OI_call { callee := (Callee.value (Operand.func 15)), args := #[], argTypes := #[] } 15 #[] (some 23) (by kernel_rfl) (by kernel_rfl) (by kernel_rfl) (GS.new_grd _) ?_
      rintro _ w5 ⟨g7, F8, rfl, ho9, hk6, hge10⟩
      refine ⟨_, rfl, ?_⟩
      have hsz11 := Keep.size hk6
      replace hA := ArgT.keep0 hA hk6
      replace hB := ArgT.keep0 hB hk6
      replace hK0 := Keep.tr hK0 (Keep.ofNone hk6); have hzhK0 := Keep.size hK0
      have own12 : ∀ q, F8 q → w.heap.size ≤ q := fun q hq => by have h1 := hge10 q hq; omega
      have lt13 := GS.Grd.lt ho9
      have hg7lt : g7 < w5.heap.size := GS.Grd.lt ho9 _ (GS.Grd.at_ ho9)
      have hg7ge := hge10 _ (GS.Grd.at_ ho9)
      refine OI_static 2 [(0, .slice A az.length cap), (1, .slice B ts.length capb), (5, .pointer (some ⟨g7, 0, none⟩))] (by kernel_rfl) ?_
      refine OI_end rfl ?_
      refine X_then ?_
      refine V_seq ?_
      refine V_seq ?_
      refine V_region ?_
      refine OI_static 2 [(0, .slice A az.length cap), (1, .slice B ts.length capb), (5, .pointer (some ⟨g7, 0, none⟩)), (25, .bool false)] (by kernel_rfl) ?_
      refine OI_end rfl ?_
      refine X_then ?_
      refine V_false rfl ?_
      refine V_skip ?_
      refine X_then ?_
      refine V_seq ?_
      refine V_region ?_
      refine OI_map (t := 34) (some 26) (by kernel_rfl) ?_
      intro r15 w14 hr16 hM17 hk18 hz19
      have hsz23 := Keep.size hk18
      replace hA := ArgT.keep0 hA hk18
      replace hB := ArgT.keep0 hB hk18
      replace hK0 := Keep.tr hK0 (Keep.ofNone hk18); have hzhK0 := Keep.size hK0
      replace ho9 := GS.Grd.keep ho9 hk18 (fun _ _ f => f)
      obtain ⟨F20, ho21, hge22⟩ := MapO.new hM17 hr16
      have own24 : ∀ q, F20 q → w5.heap.size ≤ q := fun q hq => by have h1 := hge22 q hq; omega
      have lt25 := MapO.lt ho21
      have dis26 : ∀ q, F20 q → ¬ F8 q := fun q h1 h2 => by have h3 := hge22 q h1; have h4 := lt13 q h2; omega
      have hr15lt : r15 < w14.heap.size := MapO.lt ho21 _ (MapO.at_ ho21)
      have hr15ge := hge22 _ (MapO.at_ ho21)
      refine OI_static 2 [(0, .slice A az.length cap), (1, .slice B ts.length capb), (5, .pointer (some ⟨g7, 0, none⟩)), (6, .map (some r15))] (by kernel_rfl) ?_
      refine OI_end rfl ?_
      refine X_then ?_
      refine V_seq ?_
      refine V_seq ?_
      refine V_region ?_
      refine OI_static 1 [(0, .slice A az.length cap), (1, .slice B ts.length capb), (5, .pointer (some ⟨g7, 0, none⟩)), (6, .map (some r15)), (7, .int .i64 0)] (by kernel_rfl) ?_
      refine OI_end rfl ?_
      refine X_then ?_
      refine V_block ?_
      refine V_pick [(0, .slice A az.length cap), (1, .slice B ts.length capb), (5, .pointer (some ⟨g7, 0, none⟩)), (6, .map (some r15)), (7, .int .i64 0)] rfl ?_
      refine V_loop (fun k wI e => ∃ i : Nat, ∃ C : List GS.Ci, ∃ M : List (Int × ByteArray), ∃ F27 : Nat → Prop, ∃ F31 : Nat → Prop, (k + i = az.length) ∧ (TI az i C M) ∧ (GS.Grd F27 wI g7 C) ∧ (∀ q, F27 q → w.heap.size ≤ q) ∧ (∀ q, F27 q → F8 q ∨ w14.heap.size ≤ q) ∧ (MapO F31 wI r15 M) ∧ (∀ q, F31 q → w5.heap.size ≤ q) ∧ (∀ q, F31 q → F20 q ∨ w14.heap.size ≤ q) ∧ (∀ q, F31 q → ¬ F27 q) ∧ Keep (fun q => F8 q ∨ F20 q) w14 wI ∧ e = [(0, .slice A az.length cap), (1, .slice B ts.length capb), (5, .pointer (some ⟨g7, 0, none⟩)), (6, .map (some r15)), (7, .int .i64 ((i : Nat) : Int))]) az.length ⟨0, [], [], F8, F20, by omega, TI.nil az, ho9, (fun q hq => by have h1 := own12 q hq; have h2 := lt13 q hq; omega), fun q h => .inl h, ho21, (fun q hq => by have h1 := own24 q hq; have h2 := lt25 q hq; omega), fun q h => .inl h, dis26, Keep.refl _ _, rfl⟩ ?_
      rintro k37 w36 _ ⟨i, C, M, F27, F31, hki, hTI, ho28, own29, rel30, ho32, own33, rel34, dis35, hk38, rfl⟩
      have hsz39 := Keep.size hk38
      replace hA := ArgT.keep hA hk38 hA0 (fun k hk hs => by rcases hs with hs | hs; (have h1 := own12 k hs; have h2 := lt13 k hs; omega); (have h1 := own24 k hs; have h2 := lt25 k hs; omega))
      replace hB := ArgT.keep hB hk38 hB0 (fun k hk hs => by rcases hs with hs | hs; (have h1 := own12 k hs; have h2 := lt13 k hs; omega); (have h1 := own24 k hs; have h2 := lt25 k hs; omega))
      replace hK0 := Keep.fresh hK0 hk38 (by intro i hi hs; rcases hs with hs | hs; (have h1 := own12 i hs; have h2 := lt13 i hs; omega); (have h1 := own24 i hs; have h2 := lt25 i hs; omega)); have hzhK0 := Keep.size hK0
      have hzhk38 := Keep.size hk38
      have lt40 := GS.Grd.lt ho28
      have hg7lt : g7 < w36.heap.size := GS.Grd.lt ho28 _ (GS.Grd.at_ ho28)
      have lt41 := MapO.lt ho32
      have hr15lt : r15 < w36.heap.size := MapO.lt ho32 _ (MapO.at_ ho32)
      have hsC := ho28.1
      have hcl := hTI.cln
      refine V_seq ?_
      refine V_seq ?_
      refine V_region ?_
      refine OI_static 4 [(0, .slice A az.length cap), (1, .slice B ts.length capb), (5, .pointer (some ⟨g7, 0, none⟩)), (6, .map (some r15)), (7, .int .i64 ((i : Nat) : Int)), (30, .bool (decide (((i : Nat) : Int) < ((az.length : Nat) : Int))))] (by kernel_rfl) ?_
      refine OI_end rfl ?_
      refine X_then ?_
      refine V_if (((i : Nat) : Int) < ((az.length : Nat) : Int)) (by kernel_rfl) (fun hc42 => ?_) (fun hc42 => ?_)
      · skip
        refine V_skip ?_
        refine X_then ?_
        refine V_seq ?_
        refine V_block ?_
        refine V_seq ?_
        refine V_seq ?_
        refine V_region ?_
        refine OI_static 2 [(0, .slice A az.length cap), (1, .slice B ts.length capb), (5, .pointer (some ⟨g7, 0, none⟩)), (6, .map (some r15)), (7, .int .i64 ((i : Nat) : Int)), (33, .slice B ts.length capb), (34, .int .i64 ((i : Nat) : Int))] (by kernel_rfl) ?_
        obtain ⟨b43, o43, L43, rfl, hat43⟩ := ArgT.open_ hB (by first | omega | (simp only [List.length_map]; omega) | (simp; done) | (simp; omega))
        have hb43lt0 := ArgT.lt hB0 (by first | omega | (simp only [List.length_map]; omega) | (simp; done) | (simp; omega))
        have hb43lt := hat43.blk.lt
        refine OI_pure (some 35) (.indexAddr 31 (.tmp 33) (.tmp 34)) (by kernel_rfl) (pure_idxN (b := b43) (o := o43) (len := ts.length) (cap := capb) (kd := .i64) (j := i) (E := 9) (sz := 1) (by_ := 16) (by kernel_rfl) (by kernel_rfl) (by kernel_rfl) (by omega)) ?_
        obtain ⟨x44, hx45⟩ : ∃ x, ts[i]? = some x := ⟨_, List.getElem?_eq_getElem (by first | omega | (simp only [List.length_map]; omega))⟩
        refine OI_cellR 9 (.tmp 35) (o43 + i * 1) (.string x44) (some 36) (by kernel_rfl) (by kernel_rfl) hat43.blk (m := 1) (by kernel_rfl) (AtR.cell0 hat43 (es_at hx45) rfl) ?_
        refine OI_pure (some 37) ((Op.call { callee := (Callee.builtin Builtin.len), args := #[(Operand.tmp 36)], argTypes := #[9] })) (by kernel_rfl) (pure_lens (s := x44) (by kernel_rfl) (by kernel_rfl)) ?_
        refine OI_static 6 [(0, .slice A az.length cap), (1, .slice (some ⟨b43, o43, none⟩) ts.length capb), (5, .pointer (some ⟨g7, 0, none⟩)), (6, .map (some r15)), (7, .int .i64 ((i : Nat) : Int)), (38, .bool (decide (((ByteArray.size x44 : Nat) : Int) > 100)))] (by kernel_rfl) ?_
        refine OI_end rfl ?_
        refine X_then ?_
        refine V_if (((ByteArray.size x44 : Nat) : Int) > 100) (by kernel_rfl) (fun hc46 => ?_) (fun hc46 => ?_)
        · skip
          refine V_seq ?_
          refine V_region ?_
          refine OI_static 1 [(4, .bool true)] (by kernel_rfl) ?_
          refine OI_end rfl ?_
          refine X_then ?_
          refine V_ret ?_
          refine X_ret_then ?_
          refine X_ret_block ?_
          refine X_ret_then ?_
          refine X_ret_then ?_
          refine X_ret_block ?_
          refine X_ret_then ?_
          exact X_return (.bool true) rfl ⟨rfl, hK0⟩
        · skip
          refine V_skip ?_
          refine X_then ?_
          refine V_seq ?_
          refine V_draws (acts [15]) none_ [[0, 1, 2, 3, 4, 5, 6, 7, 8, 9, 10, 11, 12, 13, 14, 15]] (by kernel_rfl) (by repeat first | exact sure_body (by rintro _ _ ⟨h, _⟩; exact ⟨_, h⟩) | refine sure_then ?_ | refine sure_block ?_ | refine sure_join ?_) (by kernel_rfl) ?_
          intro w48 hk47 he49 L hL50
          have hsz51 := Keep.size hk47
          replace hat43 := hat43.keep hk47 (fun f => f)
          have hb43lt := hat43.blk.lt
          replace hA := ArgT.keep0 hA hk47
          replace hK0 := Keep.tr hK0 (Keep.ofNone hk47); have hzhK0 := Keep.size hK0
          replace hk38 := Keep.tr hk38 (Keep.ofNone hk47); have hzhk38 := Keep.size hk38
          replace ho28 := GS.Grd.keep ho28 hk47 (fun _ _ f => f)
          replace ho32 := MapO.keep ho32 hk47 (fun _ _ f => f)
          have qhat43 := hat43
          have K52 : Keep none_ w48 w48 := Keep.refl _ _
          obtain rfl := List.mem_singleton.1 hL50
          refine GI_static [3, 4, 5, 6, 7, 8, 9, 10, 11, 12, 13, 14, 15] [(0, .slice A az.length cap), (1, .slice (some ⟨b43, o43, none⟩) ts.length capb), (5, .pointer (some ⟨g7, 0, none⟩)), (6, .map (some r15)), (7, .int .i64 ((i : Nat) : Int)), (39, .pointer (some ⟨g7, 0, none⟩)), (40, .slice A az.length cap), (41, .int .i64 ((i : Nat) : Int))] (by kernel_rfl) ?_
          obtain ⟨b53, o53, L53, rfl, hat53⟩ := ArgT.open_ hA (by first | omega | (simp only [List.length_map]; omega) | (simp; done) | (simp; omega))
          have hb53lt0 := ArgT.lt hA0 (by first | omega | (simp only [List.length_map]; omega) | (simp; done) | (simp; omega))
          have hb53lt := hat53.blk.lt
          refine GI_pure (some 42) (.indexAddr 30 (.tmp 40) (.tmp 41)) (by kernel_rfl) (by kernel_rfl) (pure_idxN (b := b53) (o := o53) (len := az.length) (cap := cap) (kd := .i64) (j := i) (E := 3) (sz := 1) (by_ := 8) (by kernel_rfl) (by kernel_rfl) (by kernel_rfl) (by omega)) ?_
          obtain ⟨x54, hx55⟩ : ∃ x, az[i]? = some x := ⟨_, List.getElem?_eq_getElem (by first | omega | (simp only [List.length_map]; omega))⟩
          refine GI_cellR 3 (.tmp 42) (o53 + i * 1) (.int .i64 x54) (some 43) (by kernel_rfl) (by kernel_rfl) (by kernel_rfl) hat53.blk (fun f => f) (m := 1) (by kernel_rfl) (AtR.cell0 hat53 (es_at hx55) rfl) ?_
          refine GI_static [7, 8, 9, 10, 11, 12, 13, 14, 15] [(0, .slice (some ⟨b53, o53, none⟩) az.length cap), (1, .slice (some ⟨b43, o43, none⟩) ts.length capb), (5, .pointer (some ⟨g7, 0, none⟩)), (6, .map (some r15)), (7, .int .i64 ((i : Nat) : Int)), (39, .pointer (some ⟨g7, 0, none⟩)), (43, .int .i64 x54), (44, .slice (some ⟨b53, o53, none⟩) az.length cap), (45, .int .i64 ((i : Nat) : Int))] (by kernel_rfl) ?_
          refine GI_pure (some 46) (.indexAddr 30 (.tmp 44) (.tmp 45)) (by kernel_rfl) (by kernel_rfl) (pure_idxN (b := b53) (o := o53) (len := az.length) (cap := cap) (kd := .i64) (j := i) (E := 3) (sz := 1) (by_ := 8) (by kernel_rfl) (by kernel_rfl) (by kernel_rfl) (by omega)) ?_
          refine GI_cellR 3 (.tmp 46) (o53 + i * 1) (.int .i64 x54) (some 47) (by kernel_rfl) (by kernel_rfl) (by kernel_rfl) hat53.blk (fun f => f) (m := 1) (by kernel_rfl) (AtR.cell0 hat53 (es_at hx55) rfl) ?_
          refine GI_static [13, 14, 15] [(0, .slice (some ⟨b53, o53, none⟩) az.length cap), (1, .slice (some ⟨b43, o43, none⟩) ts.length capb), (5, .pointer (some ⟨g7, 0, none⟩)), (6, .map (some r15)), (7, .int .i64 ((i : Nat) : Int)), (39, .pointer (some ⟨g7, 0, none⟩)), (43, .int .i64 x54), (49, .int .i64 (bAnd (IntKind.i64.wrap (0 - x54)) 7)), (50, .slice (some ⟨b43, o43, none⟩) ts.length capb), (51, .int .i64 ((i : Nat) : Int))] (by kernel_rfl) ?_
          refine GI_pure (some 52) (.indexAddr 31 (.tmp 50) (.tmp 51)) (by kernel_rfl) (by kernel_rfl) (pure_idxN (b := b43) (o := o43) (len := ts.length) (cap := capb) (kd := .i64) (j := i) (E := 9) (sz := 1) (by_ := 16) (by kernel_rfl) (by kernel_rfl) (by kernel_rfl) (by omega)) ?_
          refine GI_cellR 9 (.tmp 52) (o43 + i * 1) (.string x44) (some 53) (by kernel_rfl) (by kernel_rfl) (by kernel_rfl) qhat43.blk (fun f => f) (m := 1) (by kernel_rfl) (AtR.cell0 qhat43 (es_at hx45) rfl) ?_
          refine GI_final 15 (by kernel_rfl) (by kernel_rfl) ?_
          refine OI_call { callee := (Callee.value (Operand.func 16)), args := #[(Operand.tmp 39), (Operand.tmp 43), (Operand.tmp 49), (Operand.tmp 53)], argTypes := #[32, 3, 3, 9] } 16 #[.pointer (some ⟨g7, 0, none⟩), .int .i64 x54, .int .i64 (bAnd (IntKind.i64.wrap (0 - x54)) 7), .string x44] (some 54) (by kernel_rfl) (by kernel_rfl) (by kernel_rfl) (GS.set_grd F27 g7 C x54 (bAnd (IntKind.i64.wrap (0 - x54)) 7) x44 _ ho28 (by omega)) ?_
          rintro _ w60 ⟨rfl, ⟨F62, ho63, hfr64⟩, hk61⟩
          refine ⟨_, rfl, ?_⟩
          have hsz65 := Keep.size hk61
          replace hat43 := hat43.keep hk61 (fun hs => by have h1 := own29 _ hs; have h2 := lt40 _ hs; omega)
          have hb43lt := hat43.blk.lt
          replace hat53 := hat53.keep hk61 (fun hs => by have h1 := own29 _ hs; have h2 := lt40 _ hs; omega)
          have hb53lt := hat53.blk.lt
          replace hK0 := Keep.fresh hK0 hk61 (by intro i hi hs; first | exact hs | (exfalso; have h1 := own29 i hs; have h2 := lt40 i hs; omega) | (have h1 := own29 i hs; have h2 := lt40 i hs; show _ ∨ _; omega)); have hzhK0 := Keep.size hK0
          replace hk38 := Keep.fresh hk38 hk61 (fun i hi hs => by rcases rel30 i hs with h | h; exact .inl h; (exfalso; omega)); have hzhk38 := Keep.size hk38
          replace ho32 := MapO.keep ho32 hk61 (fun q hq hs => (fun q h1 h2 => dis35 q h2 h1) q hs hq)
          have own67 : ∀ q, F62 q → w.heap.size ≤ q := fun q hq => by rcases hfr64 q hq with h | h; (have h1 := own29 q h; have h2 := lt40 q h; omega); omega
          have lt66 := GS.Grd.lt ho63
          have rel68 : ∀ q, F62 q → F8 q ∨ w14.heap.size ≤ q := fun q hq => by rcases hfr64 q hq with h | h; exact rel30 q h; exact .inr (by omega)
          have dis69 : ∀ q, F62 q → ¬ F31 q := fun q h1 h2 => by rcases hfr64 q h1 with h | h; exact (fun q h1 h2 => dis35 q h2 h1) q h h2; (have h4 := lt41 q h2; omega)
          refine OI_end rfl ?_
          refine X_then ?_
          refine V_draws (acts [9]) none_ [[0, 1, 2, 3, 4, 5, 6, 7, 8, 9]] (by kernel_rfl) (by repeat first | exact sure_body (by rintro _ _ ⟨h, _⟩; exact ⟨_, h⟩) | refine sure_then ?_ | refine sure_block ?_ | refine sure_join ?_) (by kernel_rfl) ?_
          intro w71 hk70 he72 L hL73
          have hsz74 := Keep.size hk70
          replace hat43 := hat43.keep hk70 (fun f => f)
          have hb43lt := hat43.blk.lt
          replace hat53 := hat53.keep hk70 (fun f => f)
          have hb53lt := hat53.blk.lt
          replace hK0 := Keep.tr hK0 (Keep.ofNone hk70); have hzhK0 := Keep.size hK0
          replace hk38 := Keep.tr hk38 (Keep.ofNone hk70); have hzhk38 := Keep.size hk38
          replace ho32 := MapO.keep ho32 hk70 (fun _ _ f => f)
          replace ho63 := GS.Grd.keep ho63 hk70 (fun _ _ f => f)
          have qhat43 := hat43
          have qhat53 := hat53
          have K75 : Keep none_ w71 w71 := Keep.refl _ _
          obtain rfl := List.mem_singleton.1 hL73
          refine GI_static [3, 4, 5, 6, 7, 8, 9] [(0, .slice (some ⟨b53, o53, none⟩) az.length cap), (1, .slice (some ⟨b43, o43, none⟩) ts.length capb), (5, .pointer (some ⟨g7, 0, none⟩)), (6, .map (some r15)), (7, .int .i64 ((i : Nat) : Int)), (55, .map (some r15)), (56, .slice (some ⟨b53, o53, none⟩) az.length cap), (57, .int .i64 ((i : Nat) : Int))] (by kernel_rfl) ?_
          refine GI_pure (some 58) (.indexAddr 30 (.tmp 56) (.tmp 57)) (by kernel_rfl) (by kernel_rfl) (pure_idxN (b := b53) (o := o53) (len := az.length) (cap := cap) (kd := .i64) (j := i) (E := 3) (sz := 1) (by_ := 8) (by kernel_rfl) (by kernel_rfl) (by kernel_rfl) (by omega)) ?_
          refine GI_cellR 3 (.tmp 58) (o53 + i * 1) (.int .i64 x54) (some 59) (by kernel_rfl) (by kernel_rfl) (by kernel_rfl) qhat53.blk (fun f => f) (m := 1) (by kernel_rfl) (AtR.cell0 qhat53 (es_at hx55) rfl) ?_
          refine GI_static [7, 8, 9] [(0, .slice (some ⟨b53, o53, none⟩) az.length cap), (1, .slice (some ⟨b43, o43, none⟩) ts.length capb), (5, .pointer (some ⟨g7, 0, none⟩)), (6, .map (some r15)), (7, .int .i64 ((i : Nat) : Int)), (55, .map (some r15)), (59, .int .i64 x54), (60, .slice (some ⟨b43, o43, none⟩) ts.length capb), (61, .int .i64 ((i : Nat) : Int))] (by kernel_rfl) ?_
          refine GI_pure (some 62) (.indexAddr 31 (.tmp 60) (.tmp 61)) (by kernel_rfl) (by kernel_rfl) (pure_idxN (b := b43) (o := o43) (len := ts.length) (cap := capb) (kd := .i64) (j := i) (E := 9) (sz := 1) (by_ := 16) (by kernel_rfl) (by kernel_rfl) (by kernel_rfl) (by omega)) ?_
          refine GI_cellR 9 (.tmp 62) (o43 + i * 1) (.string x44) (some 63) (by kernel_rfl) (by kernel_rfl) (by kernel_rfl) qhat43.blk (fun f => f) (m := 1) (by kernel_rfl) (AtR.cell0 qhat43 (es_at hx45) rfl) ?_
          refine GI_final 9 (by kernel_rfl) (by kernel_rfl) ?_
          refine OI_mapset (t := 34) (kt := 3) (et := 9) (r := r15) (m := M) (x := x54) (s := x44) (.tmp 55) (.tmp 59) (.tmp 63) none (by kernel_rfl) (by kernel_rfl) (by kernel_rfl) (by kernel_rfl) (by kernel_rfl) (by kernel_rfl) ho32.2.2 ?_
          intro w76 hM77 hk78 hz79
          replace hk78 := MapO.only ho32 hk78
          have ho80 := MapO.set ho32 hM77
          have hsz82 := Keep.size hk78
          replace hat43 := hat43.keep hk78 (fun hs => by have h1 := own33 _ hs; have h2 := lt41 _ hs; omega)
          have hb43lt := hat43.blk.lt
          replace hat53 := hat53.keep hk78 (fun hs => by have h1 := own33 _ hs; have h2 := lt41 _ hs; omega)
          have hb53lt := hat53.blk.lt
          replace hK0 := Keep.fresh hK0 hk78 (by intro i hi hs; first | exact hs | (exfalso; have h1 := own33 i hs; have h2 := lt41 i hs; omega) | (have h1 := own33 i hs; have h2 := lt41 i hs; show _ ∨ _; omega)); have hzhK0 := Keep.size hK0
          replace hk38 := Keep.fresh hk38 hk78 (fun i hi hs => by rcases rel34 i hs with h | h; exact .inr h; (exfalso; omega)); have hzhk38 := Keep.size hk38
          replace ho63 := GS.Grd.keep ho63 hk78 (fun q hq hs => (fun q h1 h2 => dis69 q h2 h1) q hs hq)
          have hfr81 : ∀ q, F31 q → F31 q ∨ w71.heap.size ≤ q := fun q h => .inl h
          have own84 : ∀ q, F31 q → w5.heap.size ≤ q := fun q hq => by rcases hfr81 q hq with h | h; (have h1 := own33 q h; have h2 := lt41 q h; omega); omega
          have lt83 := MapO.lt ho80
          have rel85 : ∀ q, F31 q → F20 q ∨ w14.heap.size ≤ q := fun q hq => by rcases hfr81 q hq with h | h; exact rel34 q h; exact .inr (by omega)
          have dis86 : ∀ q, F31 q → ¬ F62 q := fun q h1 h2 => by rcases hfr81 q h1 with h | h; exact (fun q h1 h2 => dis69 q h2 h1) q h h2; (have h4 := lt66 q h2; omega)
          refine OI_end rfl ?_
          refine X_block ?_
          refine X_then ?_
          refine V_region ?_
          have hw87 : IntKind.i64.wrap (((i : Nat) : Int) + 1) = ((i + 1 : Nat) : Int) := (wrap64_id (by omega) (by omega)).trans (by omega)
          refine OI_static 2 [(0, .slice (some ⟨b53, o53, none⟩) az.length cap), (1, .slice (some ⟨b43, o43, none⟩) ts.length capb), (5, .pointer (some ⟨g7, 0, none⟩)), (6, .map (some r15)), (32, .int .i64 (IntKind.i64.wrap (((i : Nat) : Int) + 1)))] (by kernel_rfl) ?_
          refine OI_eq [(0, .slice (some ⟨b53, o53, none⟩) az.length cap), (1, .slice (some ⟨b43, o43, none⟩) ts.length capb), (5, .pointer (some ⟨g7, 0, none⟩)), (6, .map (some r15)), (32, .int .i64 ((i + 1 : Nat) : Int))] (by rw [hw87]) ?_
          refine OI_static 3 [(0, .slice (some ⟨b53, o53, none⟩) az.length cap), (1, .slice (some ⟨b43, o43, none⟩) ts.length capb), (5, .pointer (some ⟨g7, 0, none⟩)), (6, .map (some r15)), (7, .int .i64 ((i + 1 : Nat) : Int))] (by kernel_rfl) ?_
          refine OI_end rfl ?_
          exact V_again (k37 - 1) (by omega) [(0, .slice (some ⟨b53, o53, none⟩) az.length cap), (1, .slice (some ⟨b43, o43, none⟩) ts.length capb), (5, .pointer (some ⟨g7, 0, none⟩)), (6, .map (some r15)), (7, .int .i64 ((i + 1 : Nat) : Int))] rfl ⟨i + 1, (GS.setC x54 (bAnd (IntKind.i64.wrap (0 - x54)) 7) x44 C), (mset x54 x44 M), F62, F31, by omega, TI.step hTI hsC hx55 x44, ho63, (fun q hq => by have h1 := own67 q hq; have h2 := lt66 q hq; omega), rel68, ho80, (fun q hq => by have h1 := own84 q hq; have h2 := lt83 q hq; omega), rel85, dis86, hk38, rfl⟩
      · skip
        refine V_exit ?_
        refine X_exit_then ?_
        refine X_exit_then ?_
        refine X_exit_here ?_
        refine X_then ?_
        refine V_seq ?_
        refine V_seq ?_
        refine V_region ?_
        refine OI_static 1 [(0, .slice A az.length cap), (5, .pointer (some ⟨g7, 0, none⟩)), (6, .map (some r15)), (8, .int .i64 0)] (by kernel_rfl) ?_
        refine OI_end rfl ?_
        refine X_then ?_
        refine V_block ?_
        refine V_pick [(0, .slice A az.length cap), (5, .pointer (some ⟨g7, 0, none⟩)), (6, .map (some r15)), (8, .int .i64 0)] rfl ?_
        refine V_loop (fun k wI e => ∃ j : Nat, (k + j = az.length) ∧ Keep none_ w36 wI ∧ e = [(0, .slice A az.length cap), (5, .pointer (some ⟨g7, 0, none⟩)), (6, .map (some r15)), (8, .int .i64 ((j : Nat) : Int))]) az.length ⟨0, by omega, Keep.refl _ _, rfl⟩ ?_
        rintro k89 w88 _ ⟨j, hkj, hk90, rfl⟩
        have hsz91 := Keep.size hk90
        replace hA := ArgT.keep0 hA hk90
        replace hB := ArgT.keep0 hB hk90
        replace hK0 := Keep.tr hK0 (Keep.ofNone hk90); have hzhK0 := Keep.size hK0
        replace ho28 := GS.Grd.keep ho28 hk90 (fun _ _ f => f)
        replace ho32 := MapO.keep ho32 hk90 (fun _ _ f => f)
        have hzhk90 := Keep.size hk90
        refine V_seq ?_
        refine V_seq ?_
        refine V_region ?_
        refine OI_static 4 [(0, .slice A az.length cap), (5, .pointer (some ⟨g7, 0, none⟩)), (6, .map (some r15)), (8, .int .i64 ((j : Nat) : Int)), (67, .bool (decide (((j : Nat) : Int) < ((az.length : Nat) : Int))))] (by kernel_rfl) ?_
        refine OI_end rfl ?_
        refine X_then ?_
        refine V_if (((j : Nat) : Int) < ((az.length : Nat) : Int)) (by kernel_rfl) (fun hc92 => ?_) (fun hc92 => ?_)
        · skip
          refine V_skip ?_
          refine X_then ?_
          refine V_seq ?_
          refine V_block ?_
          refine V_seq ?_
          refine V_draws (acts [11]) none_ [[0, 1, 2, 3, 4, 5, 6, 7, 8, 9, 10, 11, 12, 13, 14, 15, 16]] (by kernel_rfl) (by repeat first | exact sure_body (by rintro _ _ ⟨h, _⟩; exact ⟨_, h⟩) | refine sure_then ?_ | refine sure_block ?_ | refine sure_join ?_) (by kernel_rfl) ?_
          intro w94 hk93 he95 L hL96
          have hsz97 := Keep.size hk93
          replace hA := ArgT.keep0 hA hk93
          replace hB := ArgT.keep0 hB hk93
          replace hK0 := Keep.tr hK0 (Keep.ofNone hk93); have hzhK0 := Keep.size hK0
          replace ho28 := GS.Grd.keep ho28 hk93 (fun _ _ f => f)
          replace ho32 := MapO.keep ho32 hk93 (fun _ _ f => f)
          replace hk90 := Keep.tr hk90 (Keep.ofNone hk93); have hzhk90 := Keep.size hk90
          have K98 : Keep none_ w94 w94 := Keep.refl _ _
          obtain rfl := List.mem_singleton.1 hL96
          refine GI_static [3, 4, 5, 6, 7, 8, 9, 10, 11, 12, 13, 14, 15, 16] [(0, .slice A az.length cap), (5, .pointer (some ⟨g7, 0, none⟩)), (6, .map (some r15)), (8, .int .i64 ((j : Nat) : Int)), (71, .pointer (some ⟨g7, 0, none⟩)), (72, .slice A az.length cap), (73, .int .i64 ((j : Nat) : Int))] (by kernel_rfl) ?_
          obtain ⟨b99, o99, L99, rfl, hat99⟩ := ArgT.open_ hA (by first | omega | (simp only [List.length_map]; omega) | (simp; done) | (simp; omega))
          have hb99lt0 := ArgT.lt hA0 (by first | omega | (simp only [List.length_map]; omega) | (simp; done) | (simp; omega))
          have hb99lt := hat99.blk.lt
          refine GI_pure (some 74) (.indexAddr 30 (.tmp 72) (.tmp 73)) (by kernel_rfl) (by kernel_rfl) (pure_idxN (b := b99) (o := o99) (len := az.length) (cap := cap) (kd := .i64) (j := j) (E := 3) (sz := 1) (by_ := 8) (by kernel_rfl) (by kernel_rfl) (by kernel_rfl) (by omega)) ?_
          obtain ⟨x100, hx101⟩ : ∃ x, az[j]? = some x := ⟨_, List.getElem?_eq_getElem (by first | omega | (simp only [List.length_map]; omega))⟩
          refine GI_cellR 3 (.tmp 74) (o99 + j * 1) (.int .i64 x100) (some 75) (by kernel_rfl) (by kernel_rfl) (by kernel_rfl) hat99.blk (fun f => f) (m := 1) (by kernel_rfl) (AtR.cell0 hat99 (es_at hx101) rfl) ?_
          refine GI_static [7, 8, 9, 10, 11, 12, 13, 14, 15, 16] [(0, .slice (some ⟨b99, o99, none⟩) az.length cap), (5, .pointer (some ⟨g7, 0, none⟩)), (6, .map (some r15)), (8, .int .i64 ((j : Nat) : Int)), (71, .pointer (some ⟨g7, 0, none⟩)), (75, .int .i64 x100), (76, .slice (some ⟨b99, o99, none⟩) az.length cap), (77, .int .i64 ((j : Nat) : Int))] (by kernel_rfl) ?_
          refine GI_pure (some 78) (.indexAddr 30 (.tmp 76) (.tmp 77)) (by kernel_rfl) (by kernel_rfl) (pure_idxN (b := b99) (o := o99) (len := az.length) (cap := cap) (kd := .i64) (j := j) (E := 3) (sz := 1) (by_ := 8) (by kernel_rfl) (by kernel_rfl) (by kernel_rfl) (by omega)) ?_
          refine GI_cellR 3 (.tmp 78) (o99 + j * 1) (.int .i64 x100) (some 79) (by kernel_rfl) (by kernel_rfl) (by kernel_rfl) hat99.blk (fun f => f) (m := 1) (by kernel_rfl) (AtR.cell0 hat99 (es_at hx101) rfl) ?_
          refine GI_static [11, 12, 13, 14, 15, 16] [(0, .slice (some ⟨b99, o99, none⟩) az.length cap), (5, .pointer (some ⟨g7, 0, none⟩)), (6, .map (some r15)), (8, .int .i64 ((j : Nat) : Int)), (71, .pointer (some ⟨g7, 0, none⟩)), (75, .int .i64 x100), (81, .int .i64 (bAnd (IntKind.i64.wrap (0 - x100)) 7))] (by kernel_rfl) ?_
          refine GI_call0 { callee := (Callee.value (Operand.func 17)), args := #[(Operand.tmp 71), (Operand.tmp 75), (Operand.tmp 81)], argTypes := #[32, 3, 3] } 17 #[.pointer (some ⟨g7, 0, none⟩), .int .i64 x100, .int .i64 (bAnd (IntKind.i64.wrap (0 - x100)) 7)] (some 82) (by kernel_rfl) (by kernel_rfl) (by kernel_rfl) (by kernel_rfl) (by kernel_rfl) (get_seen ho28 hTI (by omega) hx101) ?_
          rintro _ w104 ⟨rfl, hk105⟩
          refine ⟨_, rfl, ?_⟩
          have hsz106 := Keep.size hk105
          replace hat99 := hat99.keep hk105 (fun f => f)
          have hb99lt := hat99.blk.lt
          replace hB := ArgT.keep0 hB hk105
          replace hK0 := Keep.tr hK0 (Keep.ofNone hk105); have hzhK0 := Keep.size hK0
          replace ho28 := GS.Grd.keep ho28 hk105 (fun _ _ f => f)
          replace ho32 := MapO.keep ho32 hk105 (fun _ _ f => f)
          replace hk90 := Keep.tr hk90 (Keep.ofNone hk105); have hzhk90 := Keep.size hk90
          refine GI_static [] [(0, .slice (some ⟨b99, o99, none⟩) az.length cap), (5, .pointer (some ⟨g7, 0, none⟩)), (6, .map (some r15)), (8, .int .i64 ((j : Nat) : Int)), (9, .string ((mget x100 M).getD ⟨#[]⟩)), (10, .bool true)] (by kernel_rfl) ?_
          refine GI_end ?_
          refine X_then ?_
          refine V_seq ?_
          refine V_region ?_
          refine OI_static 7 [(0, .slice (some ⟨b99, o99, none⟩) az.length cap), (5, .pointer (some ⟨g7, 0, none⟩)), (6, .map (some r15)), (8, .int .i64 ((j : Nat) : Int)), (87, .bool false), (88, .string ((mget x100 M).getD ⟨#[]⟩)), (89, .map (some r15)), (90, .slice (some ⟨b99, o99, none⟩) az.length cap), (91, .int .i64 ((j : Nat) : Int))] (by kernel_rfl) ?_
          refine OI_pure (some 92) (.indexAddr 30 (.tmp 90) (.tmp 91)) (by kernel_rfl) (pure_idxN (b := b99) (o := o99) (len := az.length) (cap := cap) (kd := .i64) (j := j) (E := 3) (sz := 1) (by_ := 8) (by kernel_rfl) (by kernel_rfl) (by kernel_rfl) (by omega)) ?_
          refine OI_cellR 3 (.tmp 92) (o99 + j * 1) (.int .i64 x100) (some 93) (by kernel_rfl) (by kernel_rfl) hat99.blk (m := 1) (by kernel_rfl) (AtR.cell0 hat99 (es_at hx101) rfl) ?_
          refine OI_mapget (t := 34) (kt := 3) (et := 9) (r := r15) (m := M) (x := x100) (.tmp 89) (.tmp 93) (some 94) (by kernel_rfl) (by kernel_rfl) (by kernel_rfl) (by kernel_rfl) (by kernel_rfl) (by kernel_rfl) ho32.2.2 ?_
          refine OI_pure (some 95) ((Op.binOp BinOp.neq 9 (Operand.tmp 88) (Operand.tmp 94) 9)) (by kernel_rfl) (pure_sneq (s := ((mget x100 M).getD ⟨#[]⟩)) (by kernel_rfl) (by kernel_rfl)) ?_
          refine OI_static 12 [(0, .slice (some ⟨b99, o99, none⟩) az.length cap), (5, .pointer (some ⟨g7, 0, none⟩)), (6, .map (some r15)), (8, .int .i64 ((j : Nat) : Int)), (88, .string ((mget x100 M).getD ⟨#[]⟩)), (89, .map (some r15)), (90, .slice (some ⟨b99, o99, none⟩) az.length cap), (91, .int .i64 ((j : Nat) : Int)), (92, .pointer (some ⟨b99, o99 + j * 1, none⟩)), (93, .int .i64 x100), (94, .string ((mget x100 M).getD ⟨#[]⟩)), (95, .bool false), (96, .bool false)] (by kernel_rfl) ?_
          refine OI_end rfl ?_
          refine X_then ?_
          refine V_false rfl ?_
          refine V_skip ?_
          refine X_block ?_
          refine X_then ?_
          refine V_region ?_
          have hw107 : IntKind.i64.wrap (((j : Nat) : Int) + 1) = ((j + 1 : Nat) : Int) := (wrap64_id (by omega) (by omega)).trans (by omega)
          refine OI_static 2 [(0, .slice (some ⟨b99, o99, none⟩) az.length cap), (5, .pointer (some ⟨g7, 0, none⟩)), (6, .map (some r15)), (69, .int .i64 (IntKind.i64.wrap (((j : Nat) : Int) + 1))), (88, .string ((mget x100 M).getD ⟨#[]⟩)), (89, .map (some r15)), (90, .slice (some ⟨b99, o99, none⟩) az.length cap), (91, .int .i64 ((j : Nat) : Int)), (92, .pointer (some ⟨b99, o99 + j * 1, none⟩)), (93, .int .i64 x100), (94, .string ((mget x100 M).getD ⟨#[]⟩)), (95, .bool false)] (by kernel_rfl) ?_
          refine OI_eq [(0, .slice (some ⟨b99, o99, none⟩) az.length cap), (5, .pointer (some ⟨g7, 0, none⟩)), (6, .map (some r15)), (69, .int .i64 ((j + 1 : Nat) : Int)), (88, .string ((mget x100 M).getD ⟨#[]⟩)), (89, .map (some r15)), (90, .slice (some ⟨b99, o99, none⟩) az.length cap), (91, .int .i64 ((j : Nat) : Int)), (92, .pointer (some ⟨b99, o99 + j * 1, none⟩)), (93, .int .i64 x100), (94, .string ((mget x100 M).getD ⟨#[]⟩)), (95, .bool false)] (by rw [hw107]) ?_
          refine OI_static 3 [(0, .slice (some ⟨b99, o99, none⟩) az.length cap), (5, .pointer (some ⟨g7, 0, none⟩)), (6, .map (some r15)), (8, .int .i64 ((j + 1 : Nat) : Int)), (88, .string ((mget x100 M).getD ⟨#[]⟩)), (89, .map (some r15)), (90, .slice (some ⟨b99, o99, none⟩) az.length cap), (91, .int .i64 ((j : Nat) : Int)), (92, .pointer (some ⟨b99, o99 + j * 1, none⟩)), (93, .int .i64 x100), (94, .string ((mget x100 M).getD ⟨#[]⟩)), (95, .bool false)] (by kernel_rfl) ?_
          refine OI_end rfl ?_
          exact V_again (k89 - 1) (by omega) [(0, .slice (some ⟨b99, o99, none⟩) az.length cap), (5, .pointer (some ⟨g7, 0, none⟩)), (6, .map (some r15)), (8, .int .i64 ((j + 1 : Nat) : Int))] rfl ⟨j + 1, by omega, hk90, rfl⟩
        · skip
          refine V_exit ?_
          refine X_exit_then ?_
          refine X_exit_then ?_
          refine X_exit_here ?_
          refine X_then ?_
          refine V_seq ?_
          refine V_region ?_
          refine OI_static 1 [(5, .pointer (some ⟨g7, 0, none⟩)), (6, .map (some r15)), (98, .pointer (some ⟨g7, 0, none⟩))] (by kernel_rfl) ?_
          refine OI_call { callee := (Callee.value (Operand.func 17)), args := #[(Operand.tmp 98), (Operand.const (Value.int IntKind.i64 1)), (Operand.const (Value.int IntKind.i64 (-1)))], argTypes := #[32, 3, 3] } 17 #[.pointer (some ⟨g7, 0, none⟩), .int .i64 1, .int .i64 (-1)] (some 99) (by kernel_rfl) (by kernel_rfl) (by kernel_rfl) (get_no ho28 hTI 1) ?_
          rintro _ w108 ⟨rfl, hk109⟩
          refine ⟨_, rfl, ?_⟩
          have hsz110 := Keep.size hk109
          replace hA := ArgT.keep0 hA hk109
          replace hB := ArgT.keep0 hB hk109
          replace hK0 := Keep.tr hK0 (Keep.ofNone hk109); have hzhK0 := Keep.size hK0
          replace ho28 := GS.Grd.keep ho28 hk109 (fun _ _ f => f)
          replace ho32 := MapO.keep ho32 hk109 (fun _ _ f => f)
          refine OI_static 7 [(5, .pointer (some ⟨g7, 0, none⟩)), (6, .map (some r15)), (12, .bool false)] (by kernel_rfl) ?_
          refine OI_end rfl ?_
          refine X_then ?_
          refine V_seq ?_
          refine V_region ?_
          refine OI_static 1 [(6, .map (some r15)), (12, .bool false), (102, .pointer (some ⟨g7, 0, none⟩))] (by kernel_rfl) ?_
          refine OI_call { callee := (Callee.value (Operand.func 18)), args := #[(Operand.tmp 102)], argTypes := #[32] } 18 #[.pointer (some ⟨g7, 0, none⟩)] (some 103) (by kernel_rfl) (by kernel_rfl) (by kernel_rfl) (GS.len_spec F27 g7 C _ (GS.Grd.gr ho28)) ?_
          rintro _ w108 ⟨rfl, rfl⟩
          refine ⟨_, rfl, ?_⟩
          refine OI_static 3 [(12, .bool false), (103, .int .i64 ((C.length : Nat) : Int)), (104, .map (some r15))] (by kernel_rfl) ?_
          refine OI_maplen (t := 34) (kt := 3) (et := 9) (r := r15) (m := M) (.tmp 104) (some 105) (by kernel_rfl) (by kernel_rfl) (by kernel_rfl) ho32.2.2 ?_
          refine OI_static 6 [(12, .bool false), (107, .bool (decide (((C.length : Nat) : Int) = ((M.length : Nat) : Int))))] (by kernel_rfl) ?_
          refine OI_eq [(12, .bool false), (107, .bool true)] (by rw [decide_eq_true (show ((C.length : Nat) : Int) = ((M.length : Nat) : Int) by have h9 := hTI.len; omega)]) ?_
          refine OI_static 10 [(111, .bool true)] (by kernel_rfl) ?_
          refine OI_call { callee := (Callee.value (Operand.func 14)), args := #[], argTypes := #[] } 14 #[] (some 112) (by kernel_rfl) (by kernel_rfl) (by kernel_rfl) (known_spec _) ?_
          rintro _ w115 ⟨rfl, hk116⟩
          refine ⟨_, rfl, ?_⟩
          have hsz117 := Keep.size hk116
          replace hA := ArgT.keep0 hA hk116
          replace hB := ArgT.keep0 hB hk116
          replace hK0 := Keep.tr hK0 (Keep.ofNone hk116); have hzhK0 := Keep.size hK0
          replace ho28 := GS.Grd.keep ho28 hk116 (fun _ _ f => f)
          replace ho32 := MapO.keep ho32 hk116 (fun _ _ f => f)
          refine OI_static 13 [(4, .bool true)] (by kernel_rfl) ?_
          refine OI_end rfl ?_
          refine X_then ?_
          refine V_ret ?_
          exact X_return (.bool true) rfl ⟨rfl, hK0⟩

theorem over_GridTexts {H : Type} {enc : TypeId × Value → H} {A B : Option Addr} {len cap lenb capb : Nat} {d db : DataW H} {ps pb : List MemPlace} {w : World} (h : DataW.Trod enc Try.prog w 0 (fun _ => true) true 30 (.slice A len cap) d ps) (hb : DataW.Trod enc Try.prog w 0 (fun _ => true) true 31 (.slice B lenb capb) db pb) : Calls Try.prog 4 #[.slice A len cap, .slice B lenb capb] w fun e w' => e = .returned (.bool true) ∧ Keep none_ w w' := by
  obtain ⟨az, rfl, hA, hl1, hc⟩ := read_elems (f := intc) (ks := [.int .i64]) (n := 1) (sz := 1) lift_int Try.underlying30 (by kernel_rfl) (by kernel_rfl) rfl (by decide) h
  obtain ⟨ts, rfl, hB, hl2, hcb⟩ := read_elems (f := strc) (ks := [.str]) (n := 1) (sz := 1) lift_str Try.underlying31 (by kernel_rfl) (by kernel_rfl) rfl (by decide) hb
  exact walk_GridTexts A B cap capb az ts w hA hB (by unfold maxLen at hc; omega) (by unfold maxLen at hcb; omega)
end Go.Al

