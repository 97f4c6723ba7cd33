/-
  Put together out of 9 texts: Walks of package ledger: a new one. Walks of package conv. What a voting holds, and where. Walks of package voting: a poll, a record. Walks of package voting: Open, Close, Tally. Walks of package voting: an account's votes in a track. Walks of package voting: an account'
-/
import Derived.Test.YtjjfimbihdoknaaGreatReferQueueB3
open Go.IntKind (i64)
set_option maxRecDepth 10000
namespace Go.Al
open Go Go.RowKit Go.Proofs
def newX (fs : List Int) (n : Nat) : List Acc := (List.range n).map fun k : Nat => Acc.mk ((fs[k]?).getD 0) 0
theorem newX_len (fs : List Int) (n : Nat) : (newX fs n).length = n := by simp [newX]
theorem newX_succ (fs : List Int) (n : Nat) : newX fs (n + 1) = newX fs n ++ [Acc.mk ((fs[n]?).getD 0) 0] := by simp [newX, List.range_succ]
def okF (fs : List Int) (i : Nat) : Prop := ∀ (k : Nat) (x : Int), k < i → fs[k]? = some x → 0 ≤ x ∧ x ≤ 1073741824
def okP (fs : List Int) : Prop := fs.length ≤ 10 ∧ (∀ x ∈ fs, 0 ≤ x ∧ x ≤ 1073741824) ∧ tot (newX fs 10) ≤ 1073741824
theorem okF_all {fs : List Int} (hl : fs.length ≤ 10) (h : okF fs 10) : ∀ x ∈ fs, 0 ≤ x ∧ x ≤ 1073741824 := by
  intro x hx
  obtain ⟨k, hk, rfl⟩ := List.getElem_of_mem hx
  exact h k _ (by omega) (List.getElem?_eq_getElem hk)
theorem newX_nn {fs : List Int} {i : Nat} (h : okF fs i) : ∀ x ∈ newX fs i, 0 ≤ x.free ∧ 0 ≤ x.held := by
  intro x hx
  simp only [newX, List.mem_map, List.mem_range] at hx
  obtain ⟨k, hk, rfl⟩ := hx
  refine ⟨?_, Int.le_refl _⟩
  show 0 ≤ (fs[k]?).getD 0
  cases hf : fs[k]? with
  | none => exact Int.le_refl _
  | some x => exact (h k x hk hf).1
theorem newX_tot {fs : List Int} : ∀ {i : Nat}, okF fs i → tot (newX fs i) ≤ i * 1073741824
  | 0, _ => by simp [newX, tot]
  | i + 1, h => by
    have ih := newX_tot (i := i) (fun k x hk hx => h k x (by omega) hx)
    have happ : ∀ (a b : List Acc), tot (a ++ b) = tot a + tot b := by
      intro a b
      induction a with
      | nil => simp [tot]
      | cons y l ih => simp only [List.cons_append, tot, ih]; omega
    rw [newX_succ, happ]
    simp only [tot]
    have : (fs[i]?).getD 0 ≤ 1073741824 := by
      cases hf : fs[i]? with
      | none => simp
      | some x => exact (h i x (by omega) hf).2
    omega
theorem new_spec6 (A : Option Addr) (cap : Nat) (fs : List Int) (w : World) (hA : ArgT w 1 intc A cap fs) (hn : fs.length ≤ 100000) : Calls Tryz.prog 26 #[.slice A fs.length cap] w fun e w' => (okP fs ∧ ∃ l F, e = .returned (.tuple #[pt l, nt 0]) ∧ Led F w' l (newX fs 10) [] ∧ Keep none_ w w' ∧ (∀ q, F q → w.heap.size ≤ q)) ∨ (¬ okP fs ∧ e = .returned (.tuple #[.pointer none, nt 1]) ∧ Keep none_ w w') := by
 have hA0 := hA
 have hK0 := Keep.refl none_ w
 refine eV ?_
 refine Vr <| On 2 [0] <| Oe <| V_seq <| Vn [0, 9] <| Vi ((fs.length : Int) > 10) (fun hc1 => ?_) (fun hc1 => ?_)
 ·
  refine Vs [(2, .pointer none),(3, nt 1)] <| Rt ?_
  exact X_return _ rfl (.inr ⟨fun hh => by have := hh.1; omega, rfl, hK0⟩)
 refine Vsk <| Vr <| Kg (new_grd _) ?_
 rintro _ w4 ⟨g6, F7, rfl, ho8, hk5, hge9⟩
 refine ⟨_, rfl, ?_⟩
 have hsz10 := Keep.size hk5
 replace hA := ArgT.keep0 hA hk5
 replace hK0 := hK0.tn hk5
 have own11 : ∀ q, F7 q → w.heap.size ≤ q := fun q hq => by have h1 := hge9 q hq; omega
 have lt12 := Grd.lt ho8
 have hg6lt : g6 < w4.heap.size := Grd.lt ho8 _ (Grd.at_ ho8)
 have hg6ge := hge9 _ (Grd.at_ ho8)
 refine On 2 [0, 11] <| Bx 108 [.slice none 0 0, pt g6] ?_
 intro b13 w13 e13 hb13 k13 z13
 have hsz14 := Keep.size k13
 replace hA := ArgT.keep0 hA k13
 replace hK0 := hK0.tn k13
 replace ho8 := Grd.keep ho8 k13 nk
 have hb13lt := hb13.lt
 refine On 4 [0, 4] <| Oe <| V_seq <| Vn [0, 4, 13] <| V_block <| Vp [(0, .slice A fs.length cap),(4, pt b13),(13, nt 0)] <| V_loop (fun k wI e => ∃ i : Nat, ∃ A2 : Option Addr, ∃ cap2 : Nat, (k + i = 10) ∧ (Blk wI b13 [.slice A2 (newX fs i).length cap2, pt g6] 108) ∧ (SlT wI 2 Acc.cells A2 cap2 (newX fs i)) ∧ (∀ q, inA A2 q → w13.heap.size ≤ q) ∧ (okF fs i) ∧ Keep (only b13) w13 wI ∧ e = [(0, .slice A fs.length cap),(4, pt b13),(13, nt (i : Int))]) 10 ⟨0, none, 0, by omega, hb13, SlT.nil _ _ _, fun q h => (inA_none h).elim, fun k x h => by omega, Keep.refl _ _, rfl⟩ ?_
 rintro k16 w15 _ ⟨i, A2, cap2, hki, hl2, hA2, ow2, hokf, hk17, rfl⟩
 have hsz18 := Keep.size hk17
 replace hA := ArgT.keep hA hk17 hA0 (fun k hk hs => by have hs : k = b13 := hs; omega)
 replace hK0 := Keep.fr hK0 hk17
 replace ho8 := Grd.keep ho8 hk17 (fun q hq hs => by have hs : q = b13 := hs; have g0 := own11 q hq; have g1 := lt12 q hq; omega)
 have hzhk17 := Keep.size hk17
 have lt2 := SlT.lt hA2
 have hb13lt := hl2.lt
 have hnl := newX_len fs i
 refine Vn [0, 4, 13, 14] <| V_seq <| Vi ((i : Int) < 10) (fun hc19 => ?_) (fun hc19 => ?_)
 ·
  refine Vsk <| V_seq <| V_block <| Vr <| On 2 [0, 4, 5, 13] <| Oer <| On 1 [0, 4, 5, 13, 16] <| Alc_ 102 (.agg #[nt 0, nt 0]) [nt 0, nt 0] ?_
  intro b20 w20 e20 hb20 k20 z20
  have hsz21 := Keep.size k20
  replace hl2 := hl2.k0 k20
  replace hA := ArgT.keep0 hA k20
  replace hA2 := hA2.keep0 k20
  replace hK0 := hK0.tn k20
  replace hk17 := hk17.tn k20
  have hb20lt := hb20.lt
  refine OI_set (m := 2) (kd := true) 102 (.tmp 6) (.tmp 16) 0 (.agg #[nt 0, nt 0]) [nt 0, nt 0] none (by kernel_rfl) (by kernel_rfl) (by kernel_rfl) hb20 (by kernel_rfl) (by kernel_rfl) (by kernel_rfl) (Nat.le_of_ble_eq_true (by kernel_rfl)) (by simp [Value.oneCell']) ?_
  intro w22 hb20_25 hk23 hz24
  replace hb20_25 : Blk w22 b20 [nt 0, nt 0] 102 := hb20_25
  have hsz26 := Keep.size hk23
  replace hl2 := hl2.k1 hk23
  replace hA := ArgT.keep hA hk23 hA0 (fun k hk hs => by have hs : k = b20 := hs; omega)
  replace hA2 := hA2.keep hk23 (fun q hq hs => by have hs : q = b20 := hs; have g0 := ow2 q hq; have g1 := lt2 q hq; omega)
  replace hK0 := Keep.fr hK0 hk23
  replace hk17 := Keep.fr hk17 hk23
  refine Oe <| V_seq <| Vn [0, 4, 5, 6, 13, 20] <| Vi ((i : Int) < (fs.length : Int)) (fun hc27 => ?_) (fun hc27 => ?_)
  ·
   refine V_region <| On 2 [0, 4, 6, 13, 21, 22] ?_
   obtain ⟨b28, o28, L28, rfl, hat28⟩ := ArgT.open_ hA (by first | omega | (simp only [List.length_map]; omega) | (simp; done) | (simp; omega))
   have hb28lt0 := ArgT.lt hA0 (by first | omega | (simp only [List.length_map]; omega) | (simp; done) | (simp; omega))
   have hb28lt := hat28.blk.lt
   refine Oi (b := b28) (o := o28) (len := fs.length) (cap := cap) (j := i) (some 23) 72 (.tmp 21) (.tmp 22) 3 1 8 .i64 ?_
   obtain ⟨x29, hx30⟩ := exAt (xs := fs) (i := i)
   refine OI_cellR 3 (.tmp 23) (o28 + i * 1) (nt x29) (some 24) (by kernel_rfl) (by kernel_rfl) hat28.blk (m := 1) (by kernel_rfl) (AtR.cell0 hat28 (es_at hx30) rfl) <| On 5 [0, 4, 6, 13, 24, 25] <| St_ 0 (nt x29) hb20_25 ?_
   intro w31 hb20_34 hk32 hz33
   replace hb20_34 : Blk w31 b20 [nt x29, nt 0] 102 := hb20_34
   have hsz35 := Keep.size hk32
   replace hl2 := hl2.k1 hk32
   replace hA2 := hA2.keep hk32 (fun q hq hs => by have hs : q = b20 := hs; have g0 := ow2 q hq; have g1 := lt2 q hq; omega)
   replace hK0 := Keep.fr hK0 hk32
   replace hk17 := Keep.fr hk17 hk32
   refine Oe <| V_seq <| Vr <| On 1 [0, 4, 6, 13, 26] <| Lr 0 (nt x29) hb20_34 <| Kq (isAmount_spec x29 _) <| Oen [0, 4, 6, 13, 29] <| V_not (0 ≤ x29 ∧ x29 ≤ 1073741824) (by kernel_rfl) (fun hc41 => ?_) (fun hc41 => ?_)
   ·
    refine Vs [(2, .pointer none),(3, nt 1)] <| Rt <| X_ret_block <| X_ret_then <| X_ret_then <| X_ret_block <| X_ret_then ?_
    exact X_return _ rfl (.inr ⟨fun hh => hc41 (hh.2.1 _ (List.mem_of_getElem? hx30)), rfl, hK0⟩)
   refine Vsk <| V_draws (acts [6, 7, 10]) (fun q => q ≠ b13 ∧ q ≠ b20) [[5, 6, 1, 2, 3, 4, 7, 0, 8, 9, 10]] (by kernel_rfl) (by repeat first | exact sure_body (by rintro _ _ (⟨_, _, _, h, _⟩ | ⟨_, h, _⟩) <;> exact ⟨_, h⟩) | refine sure_then ?_ | refine sure_block ?_ | refine sure_join ?_) (by kernel_rfl) ?_
   intro w43 hk42 he44 L hL45
   have hsz46 := Keep.size hk42
   replace hl2 := hl2.k0 hk42
   replace hb20_34 := hb20_34.k0 hk42
   replace hk17 := hk17.tn hk42
   have qhl2 := hl2
   have qhb20_34 := hb20_34
   have K47 : Keep (fun q => q ≠ b13 ∧ q ≠ b20) w43 w43 := Keep.refl _ _
   obtain rfl := List.mem_singleton.1 hL45
   refine Ma 0 [nt x29, nt 0] 2 qhb20_34 nb2 rfl rfl <| GI_slit (E := 102) (zv := .agg #[nt 0, nt 0]) (sz := 2) (by_ := 16) 105 1 #[(0, (Operand.tmp 35))] [.agg #[nt x29, nt 0]] [nt x29, nt 0] (some 36) (by kernel_rfl) (by kernel_rfl) K47 (by kernel_rfl) (by kernel_rfl) (by omega) rfl (by omega) (by intro v hv; simp only [List.mem_cons, List.not_mem_nil, or_false] at hv; rcases hv with rfl <;> rfl) (by kernel_rfl) rfl ?_
   intro b48 w48 e48 hb48 k48 z48 K49
   have hsz50 := Keep.size k48
   replace hl2 := hl2.k0 k48
   replace hA2 := hA2.keep0 (hk42.tr k48)
   replace hk17 := hk17.tn k48
   have hb48lt := hb48.lt
   refine Gn [4, 7, 0, 8, 9, 10] [0, 4, 13, 33, 36] <| Mc 0 (.slice A2 ((newX fs i).length) cap2) qhl2 nb1 rfl <| GI_append (t := 105) (at2 := 105) (E := 102) (E2 := 102) (sz := 2) (by_ := 16) (zv := .agg #[nt 0, nt 0]) (m := (newX fs i).length) (k := 1) (.tmp 34) (.tmp 36) (.slice A2 ((newX fs i).length) cap2) (sl_ b48 0 1 1) (some 37) (by kernel_rfl) (by kernel_rfl) (by kernel_rfl) (by kernel_rfl) (by kernel_rfl) (by kernel_rfl) (by kernel_rfl) (by kernel_rfl) (SlT.slr hA2) (slr_one hb48 (Acc.len (Acc.mk x29 0))) (Acc.one (Acc.mk x29 0)) (by first | omega | (simp only [List.length_nil]; omega)) (by omega) (by first | omega | (simp only [List.length_nil]; omega)) (by omega) ?_
   intro vv9 w51 hap
   obtain ⟨A51, cap51, rfl, hA51, hk51, own51x⟩ := app_one (f := Acc.cells) (xs := (newX fs i)) (x := (Acc.mk x29 0)) (A := A2) (cap := cap2) hap (fun x _ => Acc.len x) (Acc.len _)
   have own51 : ∀ q, inA A51 q → w13.heap.size ≤ q := fun q hq => by rcases own51x q hq with h | h; exact ow2 q h; (show w13.heap.size ≤ q; omega)
   refine ⟨Keep.fresh K49 hk51 (by intro i hi hs; have h1 := ow2 i hs; have h2 := lt2 i hs; show i ≠ b13 ∧ i ≠ b20; omega), ?_⟩
   have K52 := Keep.fresh K49 hk51 (by intro i hi hs; have h1 := ow2 i hs; have h2 := lt2 i hs; show i ≠ b13 ∧ i ≠ b20; omega)
   have hsz53 := Keep.size hk51
   replace hl2 := hl2.keep hk51 (fun hs => by have h1 := ow2 _ hs; have h2 := lt2 _ hs; omega)
   replace hk17 := Keep.fresh hk17 hk51 (by intro i hi hs; first | exact hs | (exfalso; have h1 := ow2 i hs; have h2 := lt2 i hs; omega) | (have h1 := ow2 i hs; have h2 := lt2 i hs; show _ ∨ _; omega))
   have lt51 := SlT.lt hA51
   refine Gn [10] [0, 4, 13, 37, 39] <| GI_final 10 (by kernel_rfl) (by kernel_rfl) <| St_ 0 (.slice A51 (((newX fs i) ++ [Acc.mk x29 0]).length) cap51) hl2 ?_
   intro w54 hb13_57 hk55 hz56
   replace hb13_57 : Blk w54 b13 [.slice A51 (((newX fs i) ++ [Acc.mk x29 0]).length) cap51, pt g6] 108 := hb13_57
   have hsz58 := Keep.size hk55
   replace hA51 := hA51.keep hk55 (fun q hq hs => by have hs : q = b13 := hs; have g0 := own51 q hq; have g1 := lt51 q hq; omega)
   replace hk17 := Keep.fr hk17 hk55
   refine OI_end rfl <| X_block <| X_then <| V_region ?_
   have hw59 : i64.wrap ((i : Int) + 1) = ((i + 1 : Nat) : Int) := wrp
   refine On 1 [0, 4, 40] <| Oq (u := nt (i64.wrap ((i : Int) + 1))) (v := nt ((i + 1 : Nat) : Int)) 40 (by rw [hw59]) <| Os 2 [(0, sl_ b28 o28 fs.length cap),(4, pt b13),(13, nt ((i + 1 : Nat) : Int))] <| OI_end rfl ?_
   have hns : newX fs (i + 1) = newX fs i ++ [Acc.mk x29 0] := (by rw [newX_succ, show (fs[i]?).getD 0 = x29 from by rw [hx30]; rfl])
   exact V_again (k16 - 1) (by omega) [(0, sl_ b28 o28 fs.length cap),(4, pt b13),(13, nt ((i + 1 : Nat) : Int))] rfl ⟨i + 1, A51, cap51, by omega, by rw [hns]; exact hb13_57, by rw [hns]; exact hA51, own51, fun k x hk hx => by rcases Nat.lt_or_ge k i with h9 | h9; exact hokf k x h9 hx; (obtain rfl : k = i := by omega); (rw [hx30] at hx; cases hx; exact hc41), hk17, rfl⟩
  refine Vsk <| V_seq <| Vr <| On 1 [0, 4, 6, 13, 26] <| Lr 0 (nt 0) hb20_25 <| Kq (isAmount_spec 0 _) <| Ose [(0, .slice A fs.length cap),(4, pt b13),(6, pt b20),(13, nt (i : Int)),(29, .bool (!(decide (0 ≤ (0 : Int) ∧ 0 ≤ 1073741824))))] <| V_not (0 ≤ (0 : Int) ∧ 0 ≤ 1073741824) (by kernel_rfl) (fun hc65 => ?_) (fun hc65 => ?_)
  ·
   exact (by omega : False).elim
  refine Vsk <| V_draws (acts [6, 7, 10]) (fun q => q ≠ b13 ∧ q ≠ b20) [[5, 6, 1, 2, 3, 4, 7, 0, 8, 9, 10]] (by kernel_rfl) (by repeat first | exact sure_body (by rintro _ _ (⟨_, _, _, h, _⟩ | ⟨_, h, _⟩) <;> exact ⟨_, h⟩) | refine sure_then ?_ | refine sure_block ?_ | refine sure_join ?_) (by kernel_rfl) ?_
  intro w67 hk66 he68 L hL69
  have hsz70 := Keep.size hk66
  replace hl2 := hl2.k0 hk66
  replace hb20_25 := hb20_25.k0 hk66
  replace hk17 := hk17.tn hk66
  have qhl2 := hl2
  have qhb20_25 := hb20_25
  have K71 : Keep (fun q => q ≠ b13 ∧ q ≠ b20) w67 w67 := Keep.refl _ _
  obtain rfl := List.mem_singleton.1 hL69
  refine Ma 0 [nt 0, nt 0] 2 qhb20_25 nb2 rfl rfl <| GI_slit (E := 102) (zv := .agg #[nt 0, nt 0]) (sz := 2) (by_ := 16) 105 1 #[(0, (Operand.tmp 35))] [.agg #[nt 0, nt 0]] [nt 0, nt 0] (some 36) (by kernel_rfl) (by kernel_rfl) K71 (by kernel_rfl) (by kernel_rfl) (by omega) rfl (by omega) (by intro v hv; simp only [List.mem_cons, List.not_mem_nil, or_false] at hv; rcases hv with rfl <;> rfl) (by kernel_rfl) rfl ?_
  intro b72 w72 e72 hb72 k72 z72 K73
  have hsz74 := Keep.size k72
  replace hl2 := hl2.k0 k72
  replace hA2 := hA2.keep0 (hk66.tr k72)
  replace hk17 := hk17.tn k72
  have hb72lt := hb72.lt
  refine Gn [4, 7, 0, 8, 9, 10] [0, 4, 13, 33, 36] <| Mc 0 (.slice A2 ((newX fs i).length) cap2) qhl2 nb1 rfl <| GI_append (t := 105) (at2 := 105) (E := 102) (E2 := 102) (sz := 2) (by_ := 16) (zv := .agg #[nt 0, nt 0]) (m := (newX fs i).length) (k := 1) (.tmp 34) (.tmp 36) (.slice A2 ((newX fs i).length) cap2) (sl_ b72 0 1 1) (some 37) (by kernel_rfl) (by kernel_rfl) (by kernel_rfl) (by kernel_rfl) (by kernel_rfl) (by kernel_rfl) (by kernel_rfl) (by kernel_rfl) (SlT.slr hA2) (slr_one hb72 (Acc.len (Acc.mk 0 0))) (Acc.one (Acc.mk 0 0)) (by first | omega | (simp only [List.length_nil]; omega)) (by omega) (by first | omega | (simp only [List.length_nil]; omega)) (by omega) ?_
  intro vv9 w75 hap
  obtain ⟨A75, cap75, rfl, hA75, hk75, own75x⟩ := app_one (f := Acc.cells) (xs := (newX fs i)) (x := (Acc.mk 0 0)) (A := A2) (cap := cap2) hap (fun x _ => Acc.len x) (Acc.len _)
  have own75 : ∀ q, inA A75 q → w13.heap.size ≤ q := fun q hq => by rcases own75x q hq with h | h; exact ow2 q h; (show w13.heap.size ≤ q; omega)
  refine ⟨Keep.fresh K73 hk75 (by intro i hi hs; have h1 := ow2 i hs; have h2 := lt2 i hs; show i ≠ b13 ∧ i ≠ b20; omega), ?_⟩
  have K76 := Keep.fresh K73 hk75 (by intro i hi hs; have h1 := ow2 i hs; have h2 := lt2 i hs; show i ≠ b13 ∧ i ≠ b20; omega)
  have hsz77 := Keep.size hk75
  replace hl2 := hl2.keep hk75 (fun hs => by have h1 := ow2 _ hs; have h2 := lt2 _ hs; omega)
  replace hk17 := Keep.fresh hk17 hk75 (by intro i hi hs; first | exact hs | (exfalso; have h1 := ow2 i hs; have h2 := lt2 i hs; omega) | (have h1 := ow2 i hs; have h2 := lt2 i hs; show _ ∨ _; omega))
  have lt75 := SlT.lt hA75
  refine Gn [10] [0, 4, 13, 37, 39] <| GI_final 10 (by kernel_rfl) (by kernel_rfl) <| St_ 0 (.slice A75 (((newX fs i) ++ [Acc.mk 0 0]).length) cap75) hl2 ?_
  intro w78 hb13_81 hk79 hz80
  replace hb13_81 : Blk w78 b13 [.slice A75 (((newX fs i) ++ [Acc.mk 0 0]).length) cap75, pt g6] 108 := hb13_81
  have hsz82 := Keep.size hk79
  replace hA75 := hA75.keep hk79 (fun q hq hs => by have hs : q = b13 := hs; have g0 := own75 q hq; have g1 := lt75 q hq; omega)
  replace hk17 := Keep.fr hk17 hk79
  refine OI_end rfl <| X_block <| X_then <| V_region ?_
  have hw83 : i64.wrap ((i : Int) + 1) = ((i + 1 : Nat) : Int) := wrp
  refine On 1 [0, 4, 40] <| Oq (u := nt (i64.wrap ((i : Int) + 1))) (v := nt ((i + 1 : Nat) : Int)) 40 (by rw [hw83]) <| Os 2 [(0, .slice A fs.length cap),(4, pt b13),(13, nt ((i + 1 : Nat) : Int))] <| OI_end rfl ?_
  have hns : newX fs (i + 1) = newX fs i ++ [Acc.mk 0 0] := (by rw [newX_succ, show (fs[i]?).getD 0 = 0 from by rw [List.getElem?_eq_none (by omega)]; rfl])
  exact V_again (k16 - 1) (by omega) [(0, .slice A fs.length cap),(4, pt b13),(13, nt ((i + 1 : Nat) : Int))] rfl ⟨i + 1, A75, cap75, by omega, by rw [hns]; exact hb13_81, by rw [hns]; exact hA75, own75, fun k x hk hx => by rcases Nat.lt_or_ge k i with h9 | h9; exact hokf k x h9 hx; (obtain rfl : k = i := by omega); (rw [List.getElem?_eq_none (by omega)] at hx; cases hx), hk17, rfl⟩
 refine V_exit <| X_exit_then <| X_exit_then <| X_exit_here <| X_then <| V_seq <| Vr <| On 1 [4, 41] ?_
 obtain rfl : i = 10 := by omega
 have hnn := newX_nn hokf
 have htl := newX_tot hokf
 refine Ok (kl 51 #[(.tmp 41)] #[32]) 51 #[pt b13] (some 42) (issued_at b13 cap2 A2 _ (newX fs 10) _ hl2 hA2 hnn (by omega) (by rw [newX_len]; omega)) ?_
 rintro _ w84 ⟨rfl, hk85⟩
 refine ⟨_, rfl, ?_⟩
 have hsz86 := Keep.size hk85
 replace hl2 := hl2.k0 hk85
 replace hA2 := hA2.keep0 hk85
 replace hK0 := hK0.tn hk85
 replace ho8 := Grd.keep ho8 hk85 nk
 refine Oen [4, 43] <| Vi (tot (newX fs 10) > 1073741824) (fun hc87 => ?_) (fun hc87 => ?_)
 ·
  refine Vs [(2, .pointer none),(3, nt 1)] <| Rt ?_
  exact X_return _ rfl (.inr ⟨fun hh => by have := hh.2.2; omega, rfl, hK0⟩)
 refine Vsk <| Vs [(2, pt b13),(3, nt 0)] <| V_ret ?_
 exact X_return _ rfl (.inl ⟨⟨by omega, okF_all (by omega) hokf, by omega⟩, b13, fun q => w.heap.size ≤ q ∧ q < w84.heap.size, rfl, ⟨⟨newX_len _ _, newX_nn hokf, by omega⟩, ⟨by omega, by omega⟩, fun q hq => hq.2, g6, A2, cap2, F7, ⟨hl2, hA2⟩, ho8, fun q hq => ⟨⟨by have h1 := ow2 q hq; omega, by have h1 := lt2 q hq; omega⟩, by have h1 := ow2 q hq; omega⟩, fun q hq => ⟨⟨by have h1 := own11 q hq; omega, by have h1 := lt12 q hq; omega⟩, by have h1 := lt12 q hq; omega⟩, fun q h1 h2 => by have h3 := ow2 q h1; have h4 := lt12 q h2; omega⟩, hK0, fun q hq => hq.1⟩)
end Go.Al
namespace Go.Al
open Go Go.RowKit Go.Proofs
theorem cvIn_spec (n lo hi : Int) (w : World) : Calls Tryz.prog 107 #[nt n, nt lo, nt hi] w fun e w' => e = .returned (.bool (decide (lo ≤ n ∧ n ≤ hi))) ∧ w' = w := by
 refine eV ?_
 refine Vr <| On 1 [0, 1, 2] <| Oer <| On 4 [0, 2, 10] ?_
 by_cases hg1 : n ≥ lo
 ·
  exact Dt 10 hg1 <| Oen [6] <| Rr (.bool (decide (n ≤ hi))) ⟨by congr 2; simp only [Bool.decide_and]; by_cases h1 : lo ≤ n <;> simp [h1] <;> omega, rfl⟩
 exact Df 10 hg1 <| Oen [6] <| Rr (.bool false) ⟨by congr 2; simp only [Bool.decide_and]; by_cases h1 : lo ≤ n <;> simp [h1] <;> omega, rfl⟩
theorem isCapital_spec (A : Option Addr) (cap : Nat) (xs : List Int) (w : World) (hA : SlT w 1 intc A cap xs) (hn : xs.length ≤ 1000) : Calls Tryz.prog 106 #[.slice A xs.length cap] w fun e w' => e = .returned (.bool (decide (okC xs ∧ sumL xs ≤ 1073741824))) ∧ Keep none_ w w' := by
 have hK0 := Keep.refl none_ w
 refine eV ?_
 refine Vr <| On 1 [0] <| Oer <| On 1 [0, 3] <| Oe <| V_seq <| Vn [3, 6, 7, 8] <| V_block <| Vp [(3, nt 0),(6, .slice A xs.length cap),(7, nt (xs.length : Int)),(8, nt 0)] <| V_loop (fun k wI e => ∃ i : Nat, ∃ s : Int, (k + i = xs.length) ∧ (s = sumL (xs.take i)) ∧ (okC (xs.take i)) ∧ Keep none_ w wI ∧ e = [(3, nt s),(6, .slice A xs.length cap),(7, nt (xs.length : Int)),(8, nt (i : Int))]) xs.length ⟨0, 0, by omega, rfl, (fun _ h => by simp at h), Keep.refl _ _, rfl⟩ ?_
 rintro k2 w1 _ ⟨i, s, hki, hs, hok, hk3, rfl⟩
 have hsz4 := Keep.size hk3
 replace hA := hA.keep0 hk3
 replace hK0 := hK0.tn hk3
 have hzhk3 := Keep.size hk3
 refine Vn [3, 6, 7, 8, 9] <| V_seq <| Vi ((i : Int) < (xs.length : Int)) (fun hc5 => ?_) (fun hc5 => ?_)
 ·
  refine Vsk <| V_seq <| V_block <| Vr ?_
  obtain ⟨b6, o6, L6, T6, rfl, hat6⟩ := SlT.opn hA
  have hb6lt := hat6.blk.lt
  refine Oi (b := b6) (o := o6) (len := xs.length) (cap := cap) (j := i) (some 10) 72 (.tmp 6) (.tmp 8) 3 1 8 .i64 ?_
  obtain ⟨x7, hx8⟩ := exAt (xs := xs) (i := i)
  have hbd := sumL_bnd hok; rw [List.length_take] at hbd
  refine Lc (o6 + i * 1) (nt x7) hat6.blk (At.cell0 hat6 (es_at hx8) rfl) <| On 3 [3, 5, 6, 7, 8] <| Oe <| V_seq <| Vr <| On 1 [3, 5, 6, 7, 8, 12] <| Kq (cvIn_spec x7 0 1073741824 _) <| Oen [3, 5, 6, 7, 8, 14] <| V_not ((0 : Int) ≤ x7 ∧ x7 ≤ 1073741824) (by kernel_rfl) (fun hc10 => ?_) (fun hc10 => ?_)
  ·
   refine Vs [(2, .bool false)] <| Rt <| X_ret_block <| X_ret_then <| X_ret_then <| X_ret_block <| X_ret_then ?_
   exact X_return _ rfl ⟨by rw [decide_eq_false (fun hh => hc10 (hh.1 _ (List.mem_of_getElem? hx8)))], hK0⟩
  refine Vsk <| V_region ?_
  have hw11 : i64.wrap (s + x7) = s + x7 := wrp
  refine On 3 [6, 7, 8, 17] <| Oq (u := nt (i64.wrap (s + x7))) (v := nt (s + x7)) 17 (by rw [hw11]) <| On 4 [3, 6, 7, 8] <| OI_end rfl <| X_block <| X_then <| V_region ?_
  have hw12 : i64.wrap ((i : Int) + 1) = ((i + 1 : Nat) : Int) := wrp
  refine On 1 [3, 6, 7, 18] <| Oq (u := nt (i64.wrap ((i : Int) + 1))) (v := nt ((i + 1 : Nat) : Int)) 18 (by rw [hw12]) <| Os 2 [(3, nt (s + x7)),(6, sl_ b6 o6 xs.length cap),(7, nt (xs.length : Int)),(8, nt ((i + 1 : Nat) : Int))] <| OI_end rfl ?_
  exact V_again (k2 - 1) (by omega) [(3, nt (s + x7)),(6, sl_ b6 o6 xs.length cap),(7, nt (xs.length : Int)),(8, nt ((i + 1 : Nat) : Int))] rfl ⟨i + 1, s + x7, by omega, by rw [sumL_step hx8, hs], okC_step hx8 hok hc10, hk3, rfl⟩
 refine V_exit <| X_exit_then <| X_exit_then <| X_exit_here <| X_then <| Vn [2] <| V_ret ?_
 have he : i = xs.length := by omega
 rw [he, List.take_length] at hs hok
 exact Xr (.bool (decide (s ≤ 1073741824))) ⟨by rw [hs]; congr 2; rw [decide_eq_decide]; exact ⟨fun h => ⟨hok, h⟩, fun h => h.2⟩, hK0⟩
theorem isCapital3 (b : Nat) (T : TypeId) (a n s : Int) (w : World) (hb : Blk w b [nt a, nt n, nt s] T) : Calls Tryz.prog 106 #[sl_ b 0 3 3] w fun e w' => e = .returned (.bool (decide (0 ≤ a ∧ a ≤ 1073741824 ∧ 0 ≤ n ∧ n ≤ 1073741824 ∧ 0 ≤ s ∧ s ≤ 1073741824 ∧ a + n + s ≤ 1073741824))) ∧ Keep none_ w w' := by
  rw [← decide_eq_decide.2 (okC3 a n s)]
  exact isCapital_spec _ 3 [a, n, s] w (slt_blk hb (fun _ => rfl) rfl) (by simp)
theorem cvIs_spec (x : Vt) (w : World) : Calls Tryz.prog 63 #[.agg x.cells.toArray] w fun e w' => e = .returned (.bool (decide (okV x))) ∧ Keep none_ w w' := by
 have hK0 := Keep.refl none_ w
 refine eV ?_
 refine Vr <| OI_box 67 (.tmp 0) (.agg (Vt.cells x).toArray) (Vt.cells x) (some 1) (by kernel_rfl) (by kernel_rfl) rfl ?_
 intro b1 w1 e1 hb1 k1 z1
 have hsz2 := Keep.size k1
 replace hK0 := hK0.tn k1
 have hb1lt := hb1.lt
 refine On 2 [1] <| Oe <| V_seq <| Vr <| On 1 [1, 3] <| Lr 3 (nt x.a) hb1 <| On 3 [1, 4, 5] <| Lr 4 (nt x.n) hb1 <| On 5 [1, 4, 6, 7] <| Lr 5 (nt x.s) hb1 <| OI_slit (E := 3) (zv := nt 0) (sz := 1) (by_ := 8) 72 3 #[(0, (Operand.tmp 4)),(1, (Operand.tmp 6)),(2, (Operand.tmp 8))] [nt x.a, nt x.n, nt x.s] [nt x.a, nt x.n, nt x.s] (some 9) (by kernel_rfl) (by kernel_rfl) (by kernel_rfl) (by omega) rfl (by omega) (by intro v hv; simp only [List.mem_cons, List.not_mem_nil, or_false] at hv; rcases hv with rfl | rfl | rfl <;> rfl) (by kernel_rfl) rfl ?_
 intro b3 w3 e3 hb3 k3 z3
 have hsz4 := Keep.size k3
 replace hK0 := hK0.tn k3
 have hb3lt := hb3.lt
 refine Ok (kl 106 #[(.tmp 9)] #[72]) 106 #[sl_ b3 0 3 3] (some 10) (isCapital3 b3 _ x.a x.n x.s _ hb3) ?_
 rintro _ w5 ⟨rfl, hk6⟩
 refine ⟨_, rfl, ?_⟩
 have hsz7 := Keep.size hk6
 replace hb1 := hb1.k0 (k3.tr hk6)
 replace hK0 := hK0.tn hk6
 refine Oen [1, 11] <| V_not (0 ≤ x.a ∧ x.a ≤ 1073741824 ∧ 0 ≤ x.n ∧ x.n ≤ 1073741824 ∧ 0 ≤ x.s ∧ x.s ≤ 1073741824 ∧ x.a + x.n + x.s ≤ 1073741824) (by kernel_rfl) (fun hc8 => ?_) (fun hc8 => ?_)
 ·
  exact Vn [2] <| Rt <| Xr (.bool false) ⟨by congr 2; first | (apply Eq.symm; (try simp only [decide_eq_true_eq]); (try simp only [decide_eq_false_iff_not]); unfold okV; simp_all <;> omega) | (rw [decide_eq_decide]; unfold okV; simp_all <;> omega), hK0⟩
 refine Vsk <| V_seq <| Vr <| On 1 [1, 12] <| Lr 0 (nt x.kind) hb1 <| Oe <| V_block <| Vn [1, 13, 14] <| Vi (x.kind = 1) (fun hc9 => ?_) (fun hc9 => ?_)
 ·
  refine Vr <| On 1 [1, 16] <| Lr 2 (nt x.level) hb1 <| Kq (cvIn_spec x.level 0 6 _) <| On 4 [1, 19] ?_
  by_cases hg13 : (0 : Int) ≤ x.level ∧ x.level ≤ 6
  ·
   refine Dt 19 hg13 <| On 5 [1, 19, 20] <| Lr 4 (nt x.n) hb1 <| On 9 [1, 24] ?_
   by_cases hg14 : x.n = 0
   ·
    exact Dt 24 hg14 <| On 10 [24, 25] <| Lr 5 (nt x.s) hb1 <| Oen [2] <| V_ret <| X_ret_block <| X_ret_then <| Xr (.bool (decide (x.s = 0))) ⟨by congr 2; first | (apply Eq.symm; (try simp only [decide_eq_true_eq]); (try simp only [decide_eq_false_iff_not]); unfold okV; simp_all <;> omega) | (rw [decide_eq_decide]; unfold okV; simp_all <;> omega), hK0⟩
   exact Df 24 hg14 <| Oen [2] <| V_ret <| X_ret_block <| X_ret_then <| Xr (.bool false) ⟨by congr 2; first | (apply Eq.symm; (try simp only [decide_eq_true_eq]); (try simp only [decide_eq_false_iff_not]); unfold okV; simp_all <;> omega) | (rw [decide_eq_decide]; unfold okV; simp_all <;> omega), hK0⟩
  exact Df 19 hg13 <| Oen [2] <| V_ret <| X_ret_block <| X_ret_then <| Xr (.bool false) ⟨by congr 2; first | (apply Eq.symm; (try simp only [decide_eq_true_eq]); (try simp only [decide_eq_false_iff_not]); unfold okV; simp_all <;> omega) | (rw [decide_eq_decide]; unfold okV; simp_all <;> omega), hK0⟩
 refine Vn [1, 13, 29] <| Vi (x.kind = 2) (fun hc15 => ?_) (fun hc15 => ?_)
 ·
  refine Vr <| On 1 [1, 31] <| Lr 1 (.bool x.aye) hb1 <| Os 4 [(1, pt b1),(34, .bool (!x.aye))] ?_
  cases hg16 : (!x.aye)
  ·
   exact OI_eq [(1, pt b1),(34, .bool false)] (by first | rfl | rw [hg16]) <| Oen [2] <| V_ret <| X_ret_block <| X_ret_then <| Xr (.bool false) ⟨by congr 2; first | (apply Eq.symm; (try simp only [decide_eq_true_eq]); (try simp only [decide_eq_false_iff_not]); unfold okV; simp_all <;> omega) | (rw [decide_eq_decide]; unfold okV; simp_all <;> omega), hK0⟩
  refine OI_eq [(1, pt b1),(34, .bool true)] (by first | rfl | rw [hg16]) <| On 5 [1, 34, 35] <| Lr 2 (nt x.level) hb1 <| On 9 [1, 39] ?_
  by_cases hg17 : x.level = 0
  ·
   exact Dt 39 hg17 <| On 10 [39, 40] <| Lr 5 (nt x.s) hb1 <| Oen [2] <| V_ret <| X_ret_block <| X_ret_then <| Xr (.bool (decide (x.s = 0))) ⟨by congr 2; first | (apply Eq.symm; (try simp only [decide_eq_true_eq]); (try simp only [decide_eq_false_iff_not]); unfold okV; simp_all <;> omega) | (rw [decide_eq_decide]; unfold okV; simp_all <;> omega), hK0⟩
  exact Df 39 hg17 <| Oen [2] <| V_ret <| X_ret_block <| X_ret_then <| Xr (.bool false) ⟨by congr 2; first | (apply Eq.symm; (try simp only [decide_eq_true_eq]); (try simp only [decide_eq_false_iff_not]); unfold okV; simp_all <;> omega) | (rw [decide_eq_decide]; unfold okV; simp_all <;> omega), hK0⟩
 refine Vn [1, 44] <| Vi (x.kind = 3) (fun hc18 => ?_) (fun hc18 => ?_)
 ·
  refine Vr <| On 1 [1, 46] <| Lr 1 (.bool x.aye) hb1 <| Os 4 [(1, pt b1),(49, .bool (!x.aye))] ?_
  cases hg19 : (!x.aye)
  ·
   exact OI_eq [(1, pt b1),(49, .bool false)] (by first | rfl | rw [hg19]) <| Oen [2] <| V_ret <| X_ret_block <| X_ret_then <| Xr (.bool false) ⟨by congr 2; first | (apply Eq.symm; (try simp only [decide_eq_true_eq]); (try simp only [decide_eq_false_iff_not]); unfold okV; simp_all <;> omega) | (rw [decide_eq_decide]; unfold okV; simp_all <;> omega), hK0⟩
  exact OI_eq [(1, pt b1),(49, .bool true)] (by first | rfl | rw [hg19]) <| On 5 [49, 50] <| Lr 2 (nt x.level) hb1 <| Oen [2] <| V_ret <| X_ret_block <| X_ret_then <| Xr (.bool (decide (x.level = 0))) ⟨by congr 2; first | (apply Eq.symm; (try simp only [decide_eq_true_eq]); (try simp only [decide_eq_false_iff_not]); unfold okV; simp_all <;> omega) | (rw [decide_eq_decide]; unfold okV; simp_all <;> omega), hK0⟩
 exact V_skip <| X_block <| X_then <| Vn [2] <| Rr (.bool false) ⟨by congr 2; first | (apply Eq.symm; (try simp only [decide_eq_true_eq]); (try simp only [decide_eq_false_iff_not]); unfold okV; simp_all <;> omega) | (rw [decide_eq_decide]; unfold okV; simp_all <;> omega), hK0⟩
theorem cvCapital_spec (x : Vt) (w : World) : Calls Tryz.prog 67 #[.agg x.cells.toArray] w fun e w' => e = .returned (nt (capI x)) ∧ Keep none_ w w' := by
 have hK0 := Keep.refl none_ w
 refine eV ?_
 refine Vr <| OI_box 67 (.tmp 0) (.agg (Vt.cells x).toArray) (Vt.cells x) (some 1) (by kernel_rfl) (by kernel_rfl) rfl ?_
 intro b1 w1 e1 hb1 k1 z1
 have hsz2 := Keep.size k1
 replace hK0 := hK0.tn k1
 have hb1lt := hb1.lt
 exact On 2 [1] <| Oer <| On 1 [1, 3] <| Lr 3 (nt x.a) hb1 <| On 3 [1, 4, 5] <| Lr 4 (nt x.n) hb1 <| On 6 [7, 8] <| Lr 5 (nt x.s) hb1 <| Oen [2] <| Rr (nt (i64.wrap ((i64.wrap (x.a + x.n)) + x.s))) ⟨rfl, hK0⟩
theorem cvVotes_spec (n level : Int) (w : World) : Calls Tryz.prog 112 #[nt n, nt level] w fun e w' => e = .returned (nt (cvVotes n level)) ∧ w' = w := by
 refine eV ?_
 refine Vr <| On 1 [0, 1] <| Oe <| V_seq <| Vn [0, 1, 6] <| Vi (level = 0) (fun hc1 => ?_) (fun hc1 => ?_)
 ·
  exact Vn [4] <| Rt <| Xr (nt (i64.wrap (Int.tdiv n 10))) ⟨by unfold cvVotes; simp [*], rfl⟩
 exact Vsk <| Vn [4] <| Rr (nt (i64.wrap (n * level))) ⟨by unfold cvVotes; simp [*], rfl⟩
theorem cvGain_spec (x : Vt) (g : Wgt) (w : World) : Calls Tryz.prog 70 #[.agg x.cells.toArray, .agg g.cells.toArray] w fun e w' => e = .returned (.agg (gainT x g).cells.toArray) ∧ Keep none_ w w' := by
 have hK0 := Keep.refl none_ w
 refine enterM Tryz.func70 rfl [.agg (Vt.cells x).toArray, .agg (Wgt.cells g).toArray] 40 rfl rfl rfl ?_
 refine Vp [(0, .agg (Vt.cells x).toArray),(1, .agg (Wgt.cells g).toArray)] <| Vr <| OI_box 67 (.tmp 0) (.agg (Vt.cells x).toArray) (Vt.cells x) (some 2) (by kernel_rfl) (by kernel_rfl) rfl ?_
 intro b1 w1 e1 hb1 k1 z1
 have hsz2 := Keep.size k1
 replace hK0 := hK0.tn k1
 have hb1lt := hb1.lt
 refine OI_box 139 (.tmp 1) (.agg (Wgt.cells g).toArray) (Wgt.cells g) (some 3) (by kernel_rfl) (by kernel_rfl) rfl ?_
 intro b3 w3 e3 hb3 k3 z3
 have hsz4 := Keep.size k3
 replace hK0 := hK0.tn k3
 have hb3lt := hb3.lt
 refine Alc_ 55 (.agg #[nt 0, nt 0, nt 0]) [nt 0, nt 0, nt 0] ?_
 intro b5 w5 e5 hb5 k5 z5
 have hsz6 := Keep.size k5
 replace hb1 := hb1.k0 (k3.tr k5)
 replace hb3 := hb3.k0 k5
 replace hK0 := hK0.tn k5
 have hb5lt := hb5.lt
 refine Oe <| V_seq <| Vr <| On 1 [2, 3, 4, 6] <| Lr 0 (nt x.kind) hb1 <| Oen [2, 3, 4, 8] <| V_not (x.kind = 1) (by kernel_rfl) (fun hc7 => ?_) (fun hc7 => ?_)
 ·
  refine V_seq <| V_draws (acts [2, 5, 12]) none_ [[0, 1, 2, 3, 4, 5, 6, 7, 8, 9, 10, 11, 12]] (by kernel_rfl) (by repeat first | exact (by first | exact sure_postM | exact sure_rQ2 | exact sure_no) | refine sure_then ?_ | refine sure_block ?_ | refine sure_join ?_) (by kernel_rfl) ?_
  intro w9 hk8 he10 L hL11
  have hsz12 := Keep.size hk8
  replace hb1 := hb1.k0 hk8
  replace hb5 := hb5.k0 hk8
  replace hK0 := hK0.tn hk8
  have qhb1 := hb1
  have K13 : Keep none_ w9 w9 := Keep.refl _ _
  obtain rfl := List.mem_singleton.1 hL11
  refine Gn [1, 2, 3, 4, 5, 6, 7, 8, 9, 10, 11, 12] [2, 4, 9] <| Mr 3 (nt x.a) qhb1 <| Hq K13 (cvVotes_spec x.a 0 _) <| Gn [4, 5, 6, 7, 8, 9, 10, 11, 12] [2, 4, 11, 12] <| Mr 4 (nt x.n) qhb1 <| Hq K13 (cvVotes_spec x.n 0 _) <| Gn [7, 8, 9, 10, 11, 12] [2, 4, 11, 14, 15] <| Mr 3 (nt x.a) qhb1 <| Gn [9, 10, 11, 12] [4, 11, 14, 16, 17] <| Mr 5 (nt x.s) qhb1 <| Gs [12] [(4, pt b5),(20, .agg #[nt (cvVotes x.a 0), nt (cvVotes x.n 0), nt (i64.wrap (x.a + x.s))])] <| GI_final 12 (by kernel_rfl) (by kernel_rfl) <| OI_set (m := 3) (kd := true) 55 (.tmp 4) (.tmp 20) 0 (.agg #[nt (cvVotes x.a 0), nt (cvVotes x.n 0), nt (i64.wrap (x.a + x.s))]) [nt (cvVotes x.a 0), nt (cvVotes x.n 0), nt (i64.wrap (x.a + x.s))] none (by kernel_rfl) (by kernel_rfl) (by kernel_rfl) hb5 (by kernel_rfl) (by kernel_rfl) (by kernel_rfl) (Nat.le_of_ble_eq_true (by kernel_rfl)) (by simp [Value.oneCell']) ?_
  intro w20 hb5_23 hk21 hz22
  replace hb5_23 : Blk w20 b5 [nt (cvVotes x.a 0), nt (cvVotes x.n 0), nt (i64.wrap (x.a + x.s))] 55 := hb5_23
  have hsz24 := Keep.size hk21
  replace hK0 := Keep.fr hK0 hk21
  refine Oe <| Rt ?_
  exact leave0 (.agg [nt (cvVotes x.a 0), nt (cvVotes x.n 0), nt (i64.wrap (x.a + x.s))].toArray) (.inl rfl) (res_agg1 (m := 3) rfl rfl (by kernel_rfl) hb5_23 rfl) ⟨by unfold gainT; simp_all [Tly.cells], hK0⟩
 refine Vsk <| V_seq <| V_draws (acts [4]) none_ [[0, 1, 2, 3, 4, 5, 6, 7, 8]] (by kernel_rfl) (by repeat first | exact (by first | exact sure_postM | exact sure_rQ2 | exact sure_no) | refine sure_then ?_ | refine sure_block ?_ | refine sure_join ?_) (by kernel_rfl) ?_
 intro w26 hk25 he27 L hL28
 have hsz29 := Keep.size hk25
 replace hb1 := hb1.k0 hk25
 replace hb3 := hb3.k0 hk25
 replace hb5 := hb5.k0 hk25
 replace hK0 := hK0.tn hk25
 have qhb1 := hb1
 have qhb3 := hb3
 have K30 : Keep none_ w26 w26 := Keep.refl _ _
 obtain rfl := List.mem_singleton.1 hL28
 refine Gn [1, 2, 3, 4, 5, 6, 7, 8] [2, 3, 4, 21] <| Mr 3 (nt x.a) qhb1 <| Gn [3, 4, 5, 6, 7, 8] [2, 3, 4, 22, 23] <| Mr 2 (nt x.level) qhb1 <| Hq K30 (cvVotes_spec x.a x.level _) <| Gn [6, 7, 8] [2, 3, 4, 25, 26] <| Mr 0 (nt g.v) qhb3 <| Gn [] [2, 3, 4, 5] <| GI_end <| X_then <| V_seq <| Vr <| On 1 [2, 3, 4, 5, 29] <| Lr 1 (.bool x.aye) hb1 <| Oe <| Vb (x.aye) (fun hc34 => ?_) (fun hc34 => ?_)
 ·
  refine Vr <| On 2 [3, 4, 31, 32] <| Lr 3 (nt x.a) hb1 <| On 4 [4, 31, 33, 34] <| Lr 1 (nt g.c) hb3 <| Os 7 [(4, pt b5),(37, .agg #[nt (i64.wrap ((cvVotes x.a x.level) + g.v)), nt 0, nt (i64.wrap (x.a + g.c))])] <| OI_set (m := 3) (kd := true) 55 (.tmp 4) (.tmp 37) 0 (.agg #[nt (i64.wrap ((cvVotes x.a x.level) + g.v)), nt 0, nt (i64.wrap (x.a + g.c))]) [nt (i64.wrap ((cvVotes x.a x.level) + g.v)), nt 0, nt (i64.wrap (x.a + g.c))] none (by kernel_rfl) (by kernel_rfl) (by kernel_rfl) hb5 (by kernel_rfl) (by kernel_rfl) (by kernel_rfl) (Nat.le_of_ble_eq_true (by kernel_rfl)) (by simp [Value.oneCell']) ?_
  intro w35 hb5_38 hk36 hz37
  replace hb5_38 : Blk w35 b5 [nt (i64.wrap ((cvVotes x.a x.level) + g.v)), nt 0, nt (i64.wrap (x.a + g.c))] 55 := hb5_38
  have hsz39 := Keep.size hk36
  replace hK0 := Keep.fr hK0 hk36
  refine Oe <| Rt ?_
  exact leave0 (.agg [nt (i64.wrap ((cvVotes x.a x.level) + g.v)), nt 0, nt (i64.wrap (x.a + g.c))].toArray) (.inl rfl) (res_agg1 (m := 3) rfl rfl (by kernel_rfl) hb5_38 rfl) ⟨by unfold gainT; simp_all [Tly.cells], hK0⟩
 refine Vsk <| Vr <| Os 2 [(4, pt b5),(39, .agg #[nt 0, nt (i64.wrap ((cvVotes x.a x.level) + g.v)), nt 0])] <| OI_set (m := 3) (kd := true) 55 (.tmp 4) (.tmp 39) 0 (.agg #[nt 0, nt (i64.wrap ((cvVotes x.a x.level) + g.v)), nt 0]) [nt 0, nt (i64.wrap ((cvVotes x.a x.level) + g.v)), nt 0] none (by kernel_rfl) (by kernel_rfl) (by kernel_rfl) hb5 (by kernel_rfl) (by kernel_rfl) (by kernel_rfl) (Nat.le_of_ble_eq_true (by kernel_rfl)) (by simp [Value.oneCell']) ?_
 intro w40 hb5_43 hk41 hz42
 replace hb5_43 : Blk w40 b5 [nt 0, nt (i64.wrap ((cvVotes x.a x.level) + g.v)), nt 0] 55 := hb5_43
 have hsz44 := Keep.size hk41
 replace hK0 := Keep.fr hK0 hk41
 refine Oe <| V_ret ?_
 exact leave0 (.agg [nt 0, nt (i64.wrap ((cvVotes x.a x.level) + g.v)), nt 0].toArray) (.inl rfl) (res_agg1 (m := 3) rfl rfl (by kernel_rfl) hb5_43 rfl) ⟨by unfold gainT; simp_all [Tly.cells], hK0⟩
theorem cvAdd_spec (A : Option Addr) (cap : Nat) (t : Tly) (xs : List Tly) (w : World) (hA : SlT w 3 Tly.cells A cap xs) (hn : xs.length ≤ 1000) : Calls Tryz.prog 71 #[.agg t.cells.toArray, .slice A xs.length cap] w fun e w' => e = .returned (.agg (addL t xs).cells.toArray) ∧ Keep none_ w w' := by
 have hAlt := SlT.lt hA
 have hK0 := Keep.refl none_ w
 refine enterM Tryz.func71 rfl [.agg (Tly.cells t).toArray, .slice A xs.length cap] 33 rfl rfl rfl ?_
 refine Vp [(0, .agg (Tly.cells t).toArray),(1, .slice A xs.length cap)] <| Vr <| OI_box 55 (.tmp 0) (.agg (Tly.cells t).toArray) (Tly.cells t) (some 2) (by kernel_rfl) (by kernel_rfl) rfl ?_
 intro b1 w1 e1 hb1 k1 z1
 have hsz2 := Keep.size k1
 replace hK0 := hK0.tn k1
 have hb1lt := hb1.lt
 refine Alc_ 55 (.agg #[nt 0, nt 0, nt 0]) [nt 0, nt 0, nt 0] ?_
 intro b3 w3 e3 hb3 k3 z3
 have hsz4 := Keep.size k3
 replace hb1 := hb1.k0 k3
 replace hA := hA.keep0 (k1.tr k3)
 replace hK0 := hK0.tn k3
 have hb3lt := hb3.lt
 refine Oe <| V_seq <| Vn [2, 4, 7, 8, 9] <| V_block <| Vp [(2, pt b1),(4, pt b3),(7, .slice A xs.length cap),(8, nt (xs.length : Int)),(9, nt 0)] <| V_loop (fun k wI e => ∃ i : Nat, (k + i = xs.length) ∧ (Blk wI b1 [nt ((addL t (xs.take i)).a), nt ((addL t (xs.take i)).n), nt ((addL t (xs.take i)).s)] 55) ∧ Keep (only b1) w3 wI ∧ e = [(2, pt b1),(4, pt b3),(7, .slice A xs.length cap),(8, nt (xs.length : Int)),(9, nt (i : Int))]) xs.length ⟨0, by omega, hb1, Keep.refl _ _, rfl⟩ ?_
 rintro k6 w5 _ ⟨i, hki, hb2, hk7, rfl⟩
 have hsz8 := Keep.size hk7
 replace hb3 := hb3.k1 hk7
 replace hA := hA.keep hk7 (fun q hq hs => by have hs : q = b1 := hs; have g1 := hAlt q hq; omega)
 replace hK0 := Keep.fr hK0 hk7
 have hzhk7 := Keep.size hk7
 have hb1lt := hb2.lt
 refine Vs [(2, pt b1),(4, pt b3),(7, .slice A xs.length cap),(8, nt (xs.length : Int)),(9, nt (i : Int)),(10, .bool (decide ((i : Int) < (xs.length : Int))))] <| V_seq <| Vi ((i : Int) < (xs.length : Int)) (fun hc9 => ?_) (fun hc9 => ?_)
 ·
  refine Vsk <| V_seq <| V_block <| Vr ?_
  obtain ⟨b10, o10, L10, T10, rfl, hat10⟩ := SlT.opn hA
  have hb10lt := hat10.blk.lt
  have hob11 := hAlt b10 ⟨_, rfl, rfl⟩
  refine Oi (b := b10) (o := o10) (len := xs.length) (cap := cap) (j := i) (some 11) 207 (.tmp 7) (.tmp 9) 55 3 24 .i64 ?_
  obtain ⟨x12, hx13⟩ := exAt (xs := xs) (i := i)
  refine La (o10 + i * 3) (Tly.cells x12) 3 hat10.blk (At.elem' hat10 (es_at hx13)) (At.len hat10 (es_at hx13)) <| Alc_ 55 (.agg #[nt 0, nt 0, nt 0]) [nt 0, nt 0, nt 0] ?_
  intro b14 w14 e14 hb14 k14 z14
  have hsz15 := Keep.size k14
  replace hb2 := hb2.k0 k14
  replace hk7 := hk7.tn k14
  have hb14lt := hb14.lt
  refine Sg 0 (Tly.cells x12) hb14 (Tly.len _) (Tly.one _) ?_
  intro w16 hb14_19 hk17 hz18
  replace hb14_19 : Blk w16 b14 (Tly.cells x12) 55 := (by rwa [over_whole (by rw [Tly.len]; rfl)] at hb14_19)
  have hsz20 := Keep.size hk17
  replace hb2 := hb2.k1 hk17
  replace hk7 := Keep.fr hk7 hk17
  refine Oer <| On 1 [2, 4, 6, 7, 8, 9, 13] <| Lr 0 (nt ((addL t (xs.take i)).a)) hb2 <| On 3 [2, 4, 6, 7, 8, 9, 14, 15] <| Lr 0 (nt x12.a) hb14_19 <| On 6 [2, 4, 6, 7, 8, 9, 17, 18] <| St_ 0 (nt (i64.wrap (((addL t (xs.take i)).a) + x12.a))) hb2 ?_
  intro w21 hb1_24 hk22 hz23
  replace hb1_24 : Blk w21 b1 [nt (i64.wrap (((addL t (xs.take i)).a) + x12.a)), nt ((addL t (xs.take i)).n), nt ((addL t (xs.take i)).s)] 55 := hb1_24
  have hsz25 := Keep.size hk22
  replace hb14_19 := hb14_19.k1 hk22
  replace hk7 := Keep.fr hk7 hk22
  refine Oer <| On 1 [2, 4, 6, 7, 8, 9, 19] <| Lr 1 (nt ((addL t (xs.take i)).n)) hb1_24 <| On 3 [2, 4, 6, 7, 8, 9, 20, 21] <| Lr 1 (nt x12.n) hb14_19 <| On 6 [2, 4, 6, 7, 8, 9, 23, 24] <| St_ 1 (nt (i64.wrap (((addL t (xs.take i)).n) + x12.n))) hb1_24 ?_
  intro w26 hb1_29 hk27 hz28
  replace hb1_29 : Blk w26 b1 [nt (i64.wrap (((addL t (xs.take i)).a) + x12.a)), nt (i64.wrap (((addL t (xs.take i)).n) + x12.n)), nt ((addL t (xs.take i)).s)] 55 := hb1_29
  have hsz30 := Keep.size hk27
  replace hb14_19 := hb14_19.k1 hk27
  replace hk7 := Keep.fr hk7 hk27
  refine Oe <| V_region <| On 1 [2, 4, 6, 7, 8, 9, 25] <| Lr 2 (nt ((addL t (xs.take i)).s)) hb1_29 <| On 3 [2, 4, 7, 8, 9, 26, 27] <| Lr 2 (nt x12.s) hb14_19 <| On 6 [2, 4, 7, 8, 9, 29, 30] <| St_ 2 (nt (i64.wrap (((addL t (xs.take i)).s) + x12.s))) hb1_29 ?_
  intro w31 hb1_34 hk32 hz33
  replace hb1_34 : Blk w31 b1 [nt (i64.wrap (((addL t (xs.take i)).a) + x12.a)), nt (i64.wrap (((addL t (xs.take i)).n) + x12.n)), nt (i64.wrap (((addL t (xs.take i)).s) + x12.s))] 55 := hb1_34
  have hsz35 := Keep.size hk32
  replace hk7 := Keep.fr hk7 hk32
  refine OI_end rfl <| X_block <| X_then <| V_region ?_
  have hw36 : i64.wrap ((i : Int) + 1) = ((i + 1 : Nat) : Int) := wrp
  refine On 1 [2, 4, 7, 8, 31] <| Oq (u := nt (i64.wrap ((i : Int) + 1))) (v := nt ((i + 1 : Nat) : Int)) 31 (by rw [hw36]) <| Os 2 [(2, pt b1),(4, pt b3),(7, sl_ b10 o10 xs.length cap),(8, nt (xs.length : Int)),(9, nt ((i + 1 : Nat) : Int))] <| OI_end rfl ?_
  exact V_again (k6 - 1) (by omega) [(2, pt b1),(4, pt b3),(7, sl_ b10 o10 xs.length cap),(8, nt (xs.length : Int)),(9, nt ((i + 1 : Nat) : Int))] rfl ⟨i + 1, by omega, by rw [addL_step hx13]; exact hb1_34, hk7, rfl⟩
 refine V_exit <| X_exit_then <| X_exit_then <| X_exit_here <| X_then <| Vr <| Oa 55 (.tmp 2) 0 [nt ((addL t (xs.take i)).a), nt ((addL t (xs.take i)).n), nt ((addL t (xs.take i)).s)] (some 32) 3 hb2 rfl rfl <| OI_set (m := 3) (kd := true) 55 (.tmp 4) (.tmp 32) 0 (.agg #[nt ((addL t (xs.take i)).a), nt ((addL t (xs.take i)).n), nt ((addL t (xs.take i)).s)]) [nt ((addL t (xs.take i)).a), nt ((addL t (xs.take i)).n), nt ((addL t (xs.take i)).s)] none (by kernel_rfl) (by kernel_rfl) (by kernel_rfl) hb3 (by kernel_rfl) (by kernel_rfl) (by kernel_rfl) (Nat.le_of_ble_eq_true (by kernel_rfl)) (by simp [Value.oneCell']) ?_
 intro w37 hb3_40 hk38 hz39
 replace hb3_40 : Blk w37 b3 [nt ((addL t (xs.take i)).a), nt ((addL t (xs.take i)).n), nt ((addL t (xs.take i)).s)] 55 := hb3_40
 have hsz41 := Keep.size hk38
 replace hK0 := Keep.fr hK0 hk38
 refine Oe <| V_ret ?_
 have he : i = xs.length := by omega
 exact leave0 (.agg [nt ((addL t (xs.take i)).a), nt ((addL t (xs.take i)).n), nt ((addL t (xs.take i)).s)].toArray) (.inl rfl) (res_agg1 (m := 3) rfl rfl (by kernel_rfl) hb3_40 rfl) ⟨by rw [he, List.take_length]; rfl, hK0⟩
theorem cvAdd1 (b : Nat) (t g : Tly) (T : TypeId) (w : World) (hb : Blk w b g.cells T) : Calls Tryz.prog 71 #[.agg t.cells.toArray, sl_ b 0 1 1] w fun e w' => e = .returned (.agg (addT t g).cells.toArray) ∧ Keep none_ w w' := cvAdd_spec _ 1 t [g] w (slt_blk hb (fun _ => rfl) rfl) (by simp)
theorem cvSub_spec (t g : Tly) (w : World) : Calls Tryz.prog 69 #[.agg t.cells.toArray, .agg g.cells.toArray] w fun e w' => e = .returned (.agg (subT t g).cells.toArray) ∧ Keep none_ w w' := by
 have hK0 := Keep.refl none_ w
 refine enterM Tryz.func69 rfl [.agg (Tly.cells t).toArray, .agg (Tly.cells g).toArray] 18 rfl rfl rfl ?_
 refine Vp [(0, .agg (Tly.cells t).toArray),(1, .agg (Tly.cells g).toArray)] <| Vr <| OI_box 55 (.tmp 0) (.agg (Tly.cells t).toArray) (Tly.cells t) (some 2) (by kernel_rfl) (by kernel_rfl) rfl ?_
 intro b1 w1 e1 hb1 k1 z1
 have hsz2 := Keep.size k1
 replace hK0 := hK0.tn k1
 have hb1lt := hb1.lt
 refine OI_box 55 (.tmp 1) (.agg (Tly.cells g).toArray) (Tly.cells g) (some 3) (by kernel_rfl) (by kernel_rfl) rfl ?_
 intro b3 w3 e3 hb3 k3 z3
 have hsz4 := Keep.size k3
 replace hK0 := hK0.tn k3
 have hb3lt := hb3.lt
 refine Alc_ 55 (.agg #[nt 0, nt 0, nt 0]) [nt 0, nt 0, nt 0] ?_
 intro b5 w5 e5 hb5 k5 z5
 have hsz6 := Keep.size k5
 replace hb1 := hb1.k0 (k3.tr k5)
 replace hb3 := hb3.k0 k5
 replace hK0 := hK0.tn k5
 have hb5lt := hb5.lt
 refine Oer <| La 0 (Tly.cells t) 3 hb1 (take_all (Tly.len _)) (Tly.len _) <| On 2 [3, 4, 5, 6] <| Lr 0 (nt g.a) hb3 <| On 5 [3, 4, 5, 8, 9] <| Lr 1 (nt g.n) hb3 <| On 8 [4, 5, 8, 11, 12] <| Lr 2 (nt g.s) hb3 <| Os 11 [(4, pt b5),(5, .agg (Tly.cells t).toArray),(15, .agg #[nt (i64.wrap (0 - g.a)), nt (i64.wrap (0 - g.n)), nt (i64.wrap (0 - g.s))])] <| OI_slit (E := 55) (zv := .agg #[nt 0, nt 0, nt 0]) (sz := 3) (by_ := 24) 207 1 #[(0, (Operand.tmp 15))] [.agg #[nt (i64.wrap (0 - g.a)), nt (i64.wrap (0 - g.n)), nt (i64.wrap (0 - g.s))]] [nt (i64.wrap (0 - g.a)), nt (i64.wrap (0 - g.n)), nt (i64.wrap (0 - g.s))] (some 16) (by kernel_rfl) (by kernel_rfl) (by kernel_rfl) (by omega) rfl (by omega) (by intro v hv; simp only [List.mem_cons, List.not_mem_nil, or_false] at hv; rcases hv with rfl <;> rfl) (by kernel_rfl) rfl ?_
 intro b7 w7 e7 hb7 k7 z7
 have hsz8 := Keep.size k7
 replace hK0 := hK0.tn k7
 have hb7lt := hb7.lt
 refine Ok (kl 71 #[(.tmp 5),(.tmp 16)] #[55, 207]) 71 #[.agg (Tly.cells t).toArray, sl_ b7 0 1 1] (some 17) (cvAdd1 b7 t (Tly.mk (i64.wrap (0 - g.a)) (i64.wrap (0 - g.n)) (i64.wrap (0 - g.s))) _ _ hb7) ?_
 rintro _ w9 ⟨rfl, hk10⟩
 refine ⟨_, rfl, ?_⟩
 have hsz11 := Keep.size hk10
 replace hb5 := hb5.k0 (k7.tr hk10)
 replace hK0 := hK0.tn hk10
 refine Sg 0 (Tly.cells (addT t (Tly.mk (i64.wrap (0 - g.a)) (i64.wrap (0 - g.n)) (i64.wrap (0 - g.s))))) hb5 (Tly.len _) (Tly.one _) ?_
 intro w12 hb5_15 hk13 hz14
 replace hb5_15 : Blk w12 b5 (Tly.cells (addT t (Tly.mk (i64.wrap (0 - g.a)) (i64.wrap (0 - g.n)) (i64.wrap (0 - g.s))))) 55 := (by rwa [over_whole (by rw [Tly.len]; rfl)] at hb5_15)
 have hsz16 := Keep.size hk13
 replace hK0 := Keep.fr hK0 hk13
 refine Oe <| V_ret ?_
 exact leave0 (.agg (Tly.cells (addT t (Tly.mk (i64.wrap (0 - g.a)) (i64.wrap (0 - g.n)) (i64.wrap (0 - g.s))))).toArray) (.inl rfl) (res_agg1 (m := 3) rfl rfl (by kernel_rfl) hb5_15 rfl) ⟨rfl, hK0⟩
end Go.Al
namespace Go.Al
open Go Go.RowKit Go.Proofs
variable {F M : Nat → Prop} {b i q v : Nat} {w w' : World}
theorem Blk.ne {a : Nat} {L L' : List Value} {t t' : TypeId} (h : Blk w a L t) (h' : Blk w b L' t') (ht : t ≠ t') : a ≠ b := fun e => ht (by subst e; exact (h.inj h').2)
structure PollS where
  track : Int
  t : Tly
  state : Int
  stop : Int
def PollS.cells (p : PollS) : List Value := [nt p.track, nt p.t.a, nt p.t.n, nt p.t.s, nt p.state, nt p.stop]
structure DelS where
  to : Int
  level : Int
  n : Int
def DelS.cells (d : DelS) : List Value := [nt d.to, nt d.level, nt d.n]
structure RecS where
  d : Option DelS
  got : Wgt
  till : Int
  n : Int
def RecS.zero : RecS := ⟨none, ⟨0, 0⟩, 0, 0⟩
def RecS.cells (dp : Option Addr) (r : RecS) : List Value := [.pointer dp, nt r.got.v, nt r.got.c, nt r.till, nt r.n]
structure VS where
  ps : List (Option PollS)
  cs : List GV.Ci
  rc : Int → Int → RecS
structure VP where
  gv : Nat
  gr : Nat
  pp : List (Option Addr)
  rs : List GR.Ci
def okD (r : RecS) : Prop := ∀ d, r.d = some d → (0 ≤ d.to ∧ d.to < 10) ∧ (0 ≤ d.level ∧ d.level ≤ 6) ∧ (0 ≤ d.n ∧ d.n ≤ 1073741824)
structure VS.Inv (s : VS) : Prop where
  len : s.ps.length = 12
  votes : ∀ c ∈ s.cs, (0 ≤ c.a ∧ c.a < 10) ∧ (0 ≤ c.b ∧ c.b < 12) ∧ okV c.v ∧ ∃ p, s.ps[c.b.toNat]? = some (some p)
  dels : ∀ a t, okD (s.rc a t)
def VS.setP (s : VS) (i : Nat) (p : PollS) : VS := { s with ps := s.ps.set i (some p) }
def RecB (M : Nat → Prop) (w : World) (q : Nat) (r : RecS) : Prop := ∃ dp, Blk w q (RecS.cells dp r) 141 ∧ (r.d = none → dp = none) ∧ (∀ d, r.d = some d → ∃ b, dp = some ⟨b, 0, none⟩ ∧ Blk w b d.cells 307 ∧ M b)
structure VotX (F1 F2 M : Nat → Prop) (w : World) (v : Nat) (P : VP) (s : VS) : Prop where
  inv : s.Inv
  gv : GV.Grd F1 w P.gv s.cs
  gr : GR.Grd F2 w P.gr P.rs
  mv : M v
  lt : ∀ q, M q → q < w.heap.size
  d12 : ∀ q, F1 q → ¬ F2 q
  d1 : ∀ q, F1 q → ¬ M q
  d2 : ∀ q, F2 q → ¬ M q
  len : P.pp.length = 12
  blk : Blk w v (P.pp.map Value.pointer ++ [.pointer (some ⟨P.gv, 0, none⟩), .pointer (some ⟨P.gr, 0, none⟩)]) 127
  polls : ∀ i : Nat, i < 12 → (P.pp[i]? = some none ∧ s.ps[i]? = some none) ∨ ∃ b p, P.pp[i]? = some (some ⟨b, 0, none⟩) ∧ s.ps[i]? = some (some p) ∧ Blk w b p.cells 133 ∧ M b
  pinj : ∀ (i j b : Nat), P.pp[i]? = some (some ⟨b, 0, none⟩) → P.pp[j]? = some (some ⟨b, 0, none⟩) → i = j
  keys : ∀ c ∈ P.rs, (0 ≤ c.a ∧ c.a < 10) ∧ (0 ≤ c.b ∧ c.b < 4)
  recs : ∀ a t, (GR.getC a t P.rs = none ∧ s.rc a t = RecS.zero) ∨ ∃ q, GR.getC a t P.rs = some (some ⟨q, 0, none⟩) ∧ RecB M w q (s.rc a t) ∧ M q
  rinj : ∀ (a t a' t' : Int) (q : Nat), GR.getC a t P.rs = some (some ⟨q, 0, none⟩) → GR.getC a' t' P.rs = some (some ⟨q, 0, none⟩) → a = a' ∧ t = t'
def Vot (F : Nat → Prop) (w : World) (v : Nat) (P : VP) (s : VS) : Prop := ∃ F1 F2 M, VotX F1 F2 M w v P s ∧ (∀ q, F1 q → F q) ∧ (∀ q, F2 q → F q) ∧ (∀ q, M q → F q) ∧ (∀ q, F q → q < w.heap.size)
theorem Vot.lt {P : VP} {s : VS} (h : Vot F w v P s) : ∀ q, F q → q < w.heap.size := by
  obtain ⟨_, _, _, _, _, _, _, h⟩ := h; exact h
theorem Vot.at_ {P : VP} {s : VS} (h : Vot F w v P s) : F v := by
  obtain ⟨_, _, _, h, _, _, h3, _⟩ := h; exact h3 _ h.mv
theorem Vot.inv {P : VP} {s : VS} (h : Vot F w v P s) : s.Inv := by
  obtain ⟨_, _, _, h, _⟩ := h; exact h.inv
theorem RecB.keep {S : Nat → Prop} {r : RecS} (h : RecB M w q r) (k : Keep S w w') (h1 : ¬ S q) (h2 : ∀ b, M b → ¬ S b) : RecB M w' q r := by
  obtain ⟨dp, hb, hn, hs⟩ := h
  refine ⟨dp, hb.keep k h1, hn, fun d hd => ?_⟩
  obtain ⟨b, e, hb', hM⟩ := hs d hd
  exact ⟨b, e, hb'.keep k (h2 b hM), hM⟩
theorem RecB.quiet {N : Nat} {r : RecS} (h : RecB M w q r) (k : Keep (lb N w) w w') : RecB M w' q r := by
  obtain ⟨dp, hb, hn, hs⟩ := h
  refine ⟨dp, hb.quiet k, hn, fun d hd => ?_⟩
  obtain ⟨b, e, hb', hM⟩ := hs d hd
  exact ⟨b, e, hb'.quiet k, hM⟩
theorem RecB.mono {M' : Nat → Prop} {r : RecS} (h : RecB M w q r) (hM : ∀ b, M b → M' b) : RecB M' w q r := by
  obtain ⟨dp, hb, hn, hs⟩ := h
  refine ⟨dp, hb, hn, fun d hd => ?_⟩
  obtain ⟨b, e, hb', h⟩ := hs d hd
  exact ⟨b, e, hb', hM b h⟩
theorem RecB.keep1 {r : RecS} (h : RecB M w q r) (k : Keep (only b) w w') {L : List Value} {t : TypeId} (hb : Blk w b L t) (hq : q ≠ b) (ht : t ≠ 307) : RecB M w' q r := by
  obtain ⟨dp, hb', hn, hs⟩ := h
  refine ⟨dp, hb'.keep k hq, hn, fun d hd => ?_⟩
  obtain ⟨c, e, hc, hM⟩ := hs d hd
  exact ⟨c, e, hc.keep k (Blk.ne hc hb (fun e => ht e.symm)), hM⟩
theorem VotX.keepM {F1 F2 M F1' F2' M' : Nat → Prop} {P : VP} {s : VS} (h : VotX F1 F2 M w v P s) (S : Nat → Prop) (k : Keep S w w') (hS : ∀ q, M q → ¬ S q) {cs : List GV.Ci} (hi : ({ s with cs := cs } : VS).Inv) (hM : ∀ q, M q → M' q) (hlt : ∀ q, M' q → q < w'.heap.size)
    (h1 : GV.Grd F1' w' P.gv cs) (h2 : GR.Grd F2' w' P.gr P.rs) (d12 : ∀ q, F1' q → ¬ F2' q) (d1 : ∀ q, F1' q → ¬ M' q) (d2 : ∀ q, F2' q → ¬ M' q) : VotX F1' F2' M' w' v P { s with cs := cs } where
  inv := hi
  gv := h1
  gr := h2
  mv := hM _ h.mv
  lt := hlt
  d12 := d12
  d1 := d1
  d2 := d2
  len := h.len
  blk := h.blk.keep k (hS _ h.mv)
  polls := fun i hi => by
    rcases h.polls i hi with h | ⟨b, p, e1, e2, hb, hm⟩
    · exact .inl h
    · exact .inr ⟨b, p, e1, e2, hb.keep k (hS _ hm), hM _ hm⟩
  pinj := h.pinj
  keys := h.keys
  recs := fun a t => by
    rcases h.recs a t with h | ⟨q, e, hr, hm⟩
    · exact .inl h
    · exact .inr ⟨q, e, (hr.keep k (hS _ hm) hS).mono hM, hM _ hm⟩
  rinj := h.rinj
theorem Vot.keep {S : Nat → Prop} {P : VP} {s : VS} (h : Vot F w v P s) (k : Keep S w w') (hS : ∀ q, F q → ¬ S q) : Vot F w' v P s := by
  obtain ⟨F1, F2, M, h, h1, h2, h3, h4⟩ := h
  exact ⟨F1, F2, M, h.keepM S k (fun q hq => hS q (h3 q hq)) h.inv (fun _ h => h) (fun q hq => Nat.lt_of_lt_of_le (h.lt q hq) k.size) (h.gv.keep k (fun q hq => hS q (h1 q hq))) (h.gr.keep k (fun q hq => hS q (h2 q hq))) h.d12 h.d1 h.d2, h1, h2, h3, fun q hq => Nat.lt_of_lt_of_le (h4 q hq) k.size⟩
theorem Vot.quiet {N : Nat} {P : VP} {s : VS} (h : Vot F w v P s) (k : Keep (lb N w) w w') : Vot F w' v P s := by
  obtain ⟨F1, F2, M, h, h1, h2, h3, h4⟩ := h
  refine ⟨F1, F2, M, ⟨h.inv, h.gv.quiet k, h.gr.quiet k, h.mv, fun q hq => Nat.lt_of_lt_of_le (h.lt q hq) k.size, h.d12, h.d1, h.d2, h.len, h.blk.quiet k, fun i hi => ?_, h.pinj, h.keys, fun a t => ?_, h.rinj⟩, h1, h2, h3, fun q hq => Nat.lt_of_lt_of_le (h4 q hq) k.size⟩
  · rcases h.polls i hi with h | ⟨b, p, e1, e2, hb, hm⟩
    · exact .inl h
    · exact .inr ⟨b, p, e1, e2, hb.quiet k, hm⟩
  · rcases h.recs a t with h | ⟨q, e, hr, hm⟩
    · exact .inl h
    · exact .inr ⟨q, e, hr.quiet k, hm⟩
theorem Vot.poll {P : VP} {s : VS} (h : Vot F w v P s) (e : P.pp[i]? = some (some ⟨b, 0, none⟩)) : ∃ p, s.ps[i]? = some (some p) ∧ Blk w b p.cells 133 ∧ F b := by
  obtain ⟨F1, F2, M, h, h1, h2, h3, h4⟩ := h
  have hi : i < 12 := by rw [← h.len]; exact (List.getElem?_eq_some_iff.1 e).1
  rcases h.polls i hi with ⟨e1, _⟩ | ⟨b', p, e1, e2, hb, hm⟩
  · rw [e] at e1; cases e1
  · rw [e] at e1; cases e1; exact ⟨p, e2, hb, h3 _ hm⟩
theorem Vot.pollB {P : VP} {s : VS} (h : Vot F w v P s) {p : PollS} (e : P.pp[i]? = some (some ⟨b, 0, none⟩)) (e2 : s.ps[i]? = some (some p)) : Blk w b p.cells 133 ∧ F b := by
  obtain ⟨p', h1, h2⟩ := h.poll e
  rw [e2] at h1; cases h1; exact h2
theorem Vot.recB {P : VP} {s : VS} (h : Vot F w v P s) {a t : Int} (e : GR.getC a t P.rs = some (some ⟨q, 0, none⟩)) : RecB F w q (s.rc a t) ∧ F q := by
  obtain ⟨F1, F2, M, h, h1, h2, h3, h4⟩ := h
  rcases h.recs a t with ⟨e1, _⟩ | ⟨q', e1, hr, hm⟩
  · rw [e] at e1; cases e1
  · rw [e] at e1; cases e1; exact ⟨hr.mono h3, h3 _ hm⟩
theorem Vot.vblk {P : VP} {s : VS} (h : Vot F w v P s) : P.pp.length = 12 ∧ Blk w v (P.pp.map Value.pointer ++ [.pointer (some ⟨P.gv, 0, none⟩), .pointer (some ⟨P.gr, 0, none⟩)]) 127 := by
  obtain ⟨_, _, _, h, _⟩ := h; exact ⟨h.len, h.blk⟩
theorem VotX.setPoll {F1 F2 : Nat → Prop} {P : VP} {s : VS} (h : VotX F1 F2 M w v P s) {p p' : PollS} (e : P.pp[i]? = some (some ⟨b, 0, none⟩)) (e2 : s.ps[i]? = some (some p)) (k : Keep (only b) w w') (hb' : Blk w' b p'.cells 133) : VotX F1 F2 M w' v P (s.setP i p') ∧ M b := by
  have hi : i < 12 := by rw [← h.len]; exact (List.getElem?_eq_some_iff.1 e).1
  have hMb : M b ∧ Blk w b p.cells 133 := by
    rcases h.polls i hi with ⟨e1, _⟩ | ⟨b', p, e1, e3, hb, hm⟩
    · rw [e] at e1; cases e1
    · rw [e] at e1; cases e1; rw [e2] at e3; cases e3; exact ⟨hm, hb⟩
  obtain ⟨hM, hB⟩ := hMb
  have hil : i < s.ps.length := (List.getElem?_eq_some_iff.1 e2).1
  refine ⟨⟨⟨by show (s.ps.set i (some p')).length = 12; rw [List.length_set]; exact h.inv.len, fun c hc => ?_, h.inv.dels⟩, h.gv.keep k (fun q hq hs => h.d1 q hq (by rw [show q = b from hs]; exact hM)), h.gr.keep k (fun q hq hs => h.d2 q hq (by rw [show q = b from hs]; exact hM)), h.mv, fun q hq => Nat.lt_of_lt_of_le (h.lt q hq) k.size, h.d12, h.d1, h.d2, h.len, h.blk.keep k (Blk.ne h.blk hB (by decide)), fun j hj => ?_, h.pinj, h.keys, fun a t => ?_, h.rinj⟩, hM⟩
  · obtain ⟨g1, g2, g3, p0, g4⟩ := h.inv.votes c hc
    refine ⟨g1, g2, g3, ?_⟩
    show ∃ p, (s.ps.set i (some p'))[c.b.toNat]? = some (some p)
    by_cases he : i = c.b.toNat
    · exact ⟨p', by rw [← he, List.getElem?_set_self hil]⟩
    · exact ⟨p0, by rw [List.getElem?_set_ne he]; exact g4⟩
  · show (P.pp[j]? = some none ∧ (s.ps.set i (some p'))[j]? = some none) ∨ ∃ b p, P.pp[j]? = some (some ⟨b, 0, none⟩) ∧ (s.ps.set i (some p'))[j]? = some (some p) ∧ Blk w' b p.cells 133 ∧ M b
    by_cases he : i = j
    · subst he
      exact .inr ⟨b, p', e, by rw [List.getElem?_set_self hil], hb', hM⟩
    · rw [List.getElem?_set_ne he]
      rcases h.polls j hj with hh | ⟨b2, p2, f1, f2, hb2, hm2⟩
      · exact .inl hh
      · exact .inr ⟨b2, p2, f1, f2, hb2.keep k (fun hs => he (h.pinj i j b e (by rw [f1, show b2 = b from hs]))), hm2⟩
  · rcases h.recs a t with hh | ⟨q, e1, hr, hm⟩
    · exact .inl hh
    · refine .inr ⟨q, e1, hr.keep1 k hB ?_ (by decide), hm⟩
      obtain ⟨_, hq, _⟩ := hr
      exact Blk.ne hq hB (by decide)
theorem Vot.setPoll {P : VP} {s : VS} (h : Vot F w v P s) {p p' : PollS} (e : P.pp[i]? = some (some ⟨b, 0, none⟩)) (e2 : s.ps[i]? = some (some p)) (k : Keep (only b) w w') (hb' : Blk w' b p'.cells 133) : Vot F w' v P (s.setP i p') := by
  obtain ⟨F1, F2, M, h, h1, h2, h3, h4⟩ := h
  exact ⟨F1, F2, M, (h.setPoll e e2 k hb').1, h1, h2, h3, fun q hq => Nat.lt_of_lt_of_le (h4 q hq) k.size⟩
theorem Vot.recX {P : VP} {s : VS} (h : Vot F w v P s) {a t : Int} (e : GR.getC a t P.rs = some (some ⟨q, 0, none⟩)) : F q ∧ ((s.rc a t).d = none ∧ Blk w q (RecS.cells none (s.rc a t)) 141 ∨ ∃ d b, (s.rc a t).d = some d ∧ Blk w q (RecS.cells (some ⟨b, 0, none⟩) (s.rc a t)) 141 ∧ Blk w b d.cells 307 ∧ F b) := by
  obtain ⟨⟨dp, g1, g2, g3⟩, hF⟩ := h.recB e
  refine ⟨hF, ?_⟩
  cases hd : (s.rc a t).d with
  | none => rw [g2 hd] at g1; exact .inl ⟨rfl, g1⟩
  | some d =>
    obtain ⟨b, rfl, e2, e3⟩ := g3 d hd
    exact .inr ⟨d, b, rfl, g1, e2, e3⟩
def pollAt (s : VS) (ref : Int) : Option PollS := if 0 ≤ ref ∧ ref < 12 then (s.ps[ref.toNat]?).join else none
theorem Vot.pollcase {P : VP} {s : VS} (h : Vot F w v P s) (ref : Int) : (pollAt s ref = none ∧ (¬ (0 ≤ ref ∧ ref < 12) ∨ ∃ i : Nat, ref = (i : Int) ∧ i < 12 ∧ P.pp[i]? = some none)) ∨ ∃ (i b : Nat) (p : PollS), ref = (i : Int) ∧ i < 12 ∧ P.pp[i]? = some (some ⟨b, 0, none⟩) ∧ s.ps[i]? = some (some p) ∧ pollAt s ref = some p := by
  obtain ⟨F1, F2, M, h, _⟩ := h
  by_cases hr : 0 ≤ ref ∧ ref < 12
  · obtain ⟨i, rfl⟩ : ∃ i : Nat, ref = i := ⟨ref.toNat, by omega⟩
    rcases h.polls i (by omega) with ⟨e1, e2⟩ | ⟨b, p, e1, e2, _⟩
    · exact .inl ⟨by unfold pollAt; rw [if_pos hr, Int.toNat_natCast, e2]; rfl, .inr ⟨i, rfl, by omega, e1⟩⟩
    · exact .inr ⟨i, b, p, rfl, by omega, e1, e2, by unfold pollAt; rw [if_pos hr, Int.toNat_natCast, e2]; rfl⟩
  · exact .inl ⟨by unfold pollAt; rw [if_neg hr], .inl hr⟩
theorem over_pp {pp : List (Option Addr)} {tl : List Value} {x : Option Addr} (hi : i < pp.length) : over (pp.map Value.pointer ++ tl) (0 + i * 1) [.pointer x] = (pp.set i x).map Value.pointer ++ tl := by
  have e : 0 + i * 1 = ([] : List Value).length + i := by simp
  have h1 := over_mid (X := []) (Y := pp.map Value.pointer) (Z := tl) (k := i) (v := .pointer x) (by simpa using hi)
  rw [e]
  simp only [List.nil_append] at h1 ⊢
  rw [h1]
  congr 1
  unfold over
  rw [List.map_set, List.set_eq_take_append_cons_drop, if_pos (by simpa using hi)]
  simp
theorem Vot.addPoll {F : Nat → Prop} {w w' : World} {v : Nat} {P : VP} {s : VS} (h : Vot F w v P s) {i b : Nat} {p : PollS} (hi : i < 12) (_e : P.pp[i]? = some none) (k : Keep (only v) w w') (hv : Blk w' v ((P.pp.set i (some ⟨b, 0, none⟩)).map Value.pointer ++ [.pointer (some ⟨P.gv, 0, none⟩), .pointer (some ⟨P.gr, 0, none⟩)]) 127) (hb : Blk w' b p.cells 133) (hge : w.heap.size ≤ b) :
    ∃ F', Vot F' w' v { P with pp := P.pp.set i (some ⟨b, 0, none⟩) } (s.setP i p) ∧ ∀ q, F' q → F q ∨ w.heap.size ≤ q := by
  obtain ⟨F1, F2, M, h, h1, h2, h3, h4⟩ := h
  have hsz := k.size
  have hbv := hb.lt
  have hil : i < s.ps.length := by rw [h.inv.len]; exact hi
  have hpl : i < P.pp.length := by rw [h.len]; exact hi
  have kS : ∀ x, x < w.heap.size → x ≠ v → ¬ only v x := fun x _ hx hs => hx hs
  refine ⟨fun x => F x ∨ x = b, ⟨F1, F2, fun x => M x ∨ x = b, ⟨⟨by show (s.ps.set i (some p)).length = 12; rw [List.length_set]; exact h.inv.len, fun c hc => ?_, h.inv.dels⟩, h.gv.keep k (fun x hx hs => h.d1 x hx (by rw [show x = v from hs]; exact h.mv)), h.gr.keep k (fun x hx hs => h.d2 x hx (by rw [show x = v from hs]; exact h.mv)), .inl h.mv, ?_, h.d12, ?_, ?_, by show (P.pp.set i _).length = 12; rw [List.length_set]; exact h.len, hv, fun j hj => ?_, ?_, h.keys, fun a t => ?_, h.rinj⟩, fun x hx => .inl (h1 x hx), fun x hx => .inl (h2 x hx), fun x hx => hx.imp (h3 x) id, ?_⟩, fun q hq => hq.imp id (fun e => by rw [e]; exact hge)⟩
  · obtain ⟨g1, g2, g3, p0, g4⟩ := h.inv.votes c hc
    refine ⟨g1, g2, g3, ?_⟩
    show ∃ p', (s.ps.set i (some p))[c.b.toNat]? = some (some p')
    by_cases he : i = c.b.toNat
    · exact ⟨p, by rw [← he, List.getElem?_set_self hil]⟩
    · exact ⟨p0, by rw [List.getElem?_set_ne he]; exact g4⟩
  · rintro x (hx | rfl)
    · exact Nat.lt_of_lt_of_le (h.lt x hx) hsz
    · exact hbv
  · rintro x hx (hm | rfl)
    · exact h.d1 x hx hm
    · have := h.gv.lt _ hx; omega
  · rintro x hx (hm | rfl)
    · exact h.d2 x hx hm
    · have := h.gr.lt _ hx; omega
  · show ((P.pp.set i (some ⟨b, 0, none⟩))[j]? = some none ∧ (s.ps.set i (some p))[j]? = some none) ∨ ∃ b' p', (P.pp.set i (some ⟨b, 0, none⟩))[j]? = some (some ⟨b', 0, none⟩) ∧ (s.ps.set i (some p))[j]? = some (some p') ∧ Blk w' b' p'.cells 133 ∧ (M b' ∨ b' = b)
    by_cases he : i = j
    · subst he
      exact .inr ⟨b, p, by rw [List.getElem?_set_self hpl], by rw [List.getElem?_set_self hil], hb, .inr rfl⟩
    · rw [List.getElem?_set_ne he, List.getElem?_set_ne he]
      rcases h.polls j hj with hh | ⟨b2, p2, f1, f2, hb2, hm2⟩
      · exact .inl hh
      · exact .inr ⟨b2, p2, f1, f2, hb2.keep k (Blk.ne hb2 h.blk (by decide)), .inl hm2⟩
  · show ∀ (j j' c : Nat),(P.pp.set i (some ⟨b, 0, none⟩))[j]? = some (some ⟨c, 0, none⟩) → (P.pp.set i (some ⟨b, 0, none⟩))[j']? = some (some ⟨c, 0, none⟩) → j = j'
    have hold : ∀ (j c : Nat), P.pp[j]? = some (some ⟨c, 0, none⟩) → c < w.heap.size := by
      intro j c hjc
      have hj : j < 12 := by rw [← h.len]; exact (List.getElem?_eq_some_iff.1 hjc).1
      rcases h.polls j hj with ⟨f1, _⟩ | ⟨b2, p2, f1, f2, hb2, hm2⟩
      · rw [hjc] at f1; cases f1
      · rw [hjc] at f1; cases f1; exact hb2.lt
    intro j j' c hj hj'
    by_cases e1 : i = j <;> by_cases e2 : i = j'
    · exact e1.symm.trans e2
    · subst e1
      rw [List.getElem?_set_self hpl] at hj; cases hj
      rw [List.getElem?_set_ne e2] at hj'
      have := hold _ _ hj'; omega
    · subst e2
      rw [List.getElem?_set_self hpl] at hj'; cases hj'
      rw [List.getElem?_set_ne e1] at hj
      have := hold _ _ hj; omega
    · rw [List.getElem?_set_ne e1] at hj
      rw [List.getElem?_set_ne e2] at hj'
      exact h.pinj _ _ _ hj hj'
  · rcases h.recs a t with hh | ⟨q, e1, hr, hm⟩
    · exact .inl hh
    · refine .inr ⟨q, e1, (hr.keep1 k h.blk ?_ (by decide)).mono (fun _ h => .inl h), .inl hm⟩
      obtain ⟨_, hq, _⟩ := hr
      exact Blk.ne hq h.blk (by decide)
  · rintro x (hx | rfl)
    · exact Nat.lt_of_lt_of_le (h4 x hx) hsz
    · exact hbv
theorem GR.getC_set (a b : Int) (x : Option Addr) : ∀ (cs : List GR.Ci), GR.Srt cs → ∀ a' b', GR.getC a' b' (GR.setC a b x cs) = if a' = a ∧ b' = b then some x else GR.getC a' b' cs
  | [], _, a', b' => by
    simp only [GR.setC, GR.getC]
    by_cases h : a' = a ∧ b' = b
    · rw [if_pos ⟨h.1.symm, h.2.symm⟩, if_pos h]
    · rw [if_neg (fun e => h ⟨e.1.symm, e.2.symm⟩), if_neg h]
  | c :: l, hs, a', b' => by
    have hs2 := List.pairwise_cons.1 hs
    have ih := GR.getC_set a b x l hs2.2 a' b'
    simp only [GR.setC]
    split
    · rename_i he
      simp only [GR.getC]
      by_cases h : a' = a ∧ b' = b
      · rw [if_pos ⟨h.1.symm, h.2.symm⟩, if_pos h]
      · rw [if_neg (fun e => h ⟨e.1.symm, e.2.symm⟩), if_neg h, if_neg (fun e => h ⟨by omega, by omega⟩)]
    · rename_i he
      split
      · simp only [GR.getC]
        rw [ih]
        by_cases h : a' = a ∧ b' = b
        · rw [if_pos h, if_pos h, if_neg (fun e => he ⟨by omega, by omega⟩)]
        · rw [if_neg h, if_neg h]
      · simp only [GR.getC]
        by_cases h : a' = a ∧ b' = b
        · rw [if_pos ⟨h.1.symm, h.2.symm⟩, if_pos h]
        · rw [if_neg (fun e => h ⟨e.1.symm, e.2.symm⟩), if_neg h]
theorem Vot.addRec {F F2 F2' M F1 : Nat → Prop} {w w' : World} {v b : Nat} {P : VP} {s : VS} (h : VotX F1 F2 M w v P s) (h1 : ∀ q, F1 q → F q) (h2 : ∀ q, F2 q → F q) (h3 : ∀ q, M q → F q) (h4 : ∀ q, F q → q < w.heap.size) {a t : Int} (ha : 0 ≤ a ∧ a < 10) (ht : 0 ≤ t ∧ t < 4) (e : GR.getC a t P.rs = none) (k : Keep F2 w w')
    (hG : GR.Grd F2' w' P.gr (GR.setC a t (some ⟨b, 0, none⟩) P.rs)) (hfr : ∀ q, F2' q → F2 q ∨ w.heap.size ≤ q) (hb : Blk w' b (RecS.cells none RecS.zero) 141) (hge : w.heap.size ≤ b) (hbF : ¬ F2' b) :
    ∃ F', Vot F' w' v { P with rs := GR.setC a t (some ⟨b, 0, none⟩) P.rs } s ∧ (∀ q, F' q → F q ∨ w.heap.size ≤ q) := by
  have hsz := k.size
  have hkM : ∀ x, M x → ¬ F2 x := fun x hx hf => h.d2 x hf hx
  have hset := GR.getC_set a t (some ⟨b, 0, none⟩) P.rs h.gr.1
  have hz : s.rc a t = RecS.zero := by
    rcases h.recs a t with hh | ⟨q, e1, _⟩
    · exact hh.2
    · rw [e] at e1; cases e1
  refine ⟨fun x => F x ∨ F2' x ∨ x = b, ⟨F1, F2', fun x => M x ∨ x = b, ⟨h.inv, h.gv.keep k (fun x hx hs => h.d12 x hx hs), hG, .inl h.mv, ?_, ?_, ?_, ?_, h.len, h.blk.keep k (hkM _ h.mv), fun j hj => ?_, h.pinj, ?_, fun x y => ?_, ?_⟩, fun x hx => .inl (h1 x hx), fun x hx => .inr (.inl hx), fun x hx => hx.elim (fun hx => .inl (h3 x hx)) (fun hx => .inr (.inr hx)), ?_⟩, ?_⟩
  · rintro x (hx | rfl)
    · exact Nat.lt_of_lt_of_le (h.lt x hx) hsz
    · exact hb.lt
  · intro x hx hx2
    rcases hfr x hx2 with hh | hh
    · exact h.d12 x hx hh
    · have := h.gv.lt x hx; omega
  · rintro x hx (hm | rfl)
    · exact h.d1 x hx hm
    · have := h.gv.lt _ hx; omega
  · rintro x hx (hm | rfl)
    · rcases hfr x hx with hh | hh
      · exact h.d2 x hh hm
      · have := h.lt x hm; omega
    · exact hbF hx
  · rcases h.polls j hj with hh | ⟨b2, p2, f1, f2, hb2, hm2⟩
    · exact .inl hh
    · exact .inr ⟨b2, p2, f1, f2, hb2.keep k (hkM _ hm2), .inl hm2⟩
  · intro c hc
    rcases GR.setC_mem hc with hh | hh
    · rw [hh.1, hh.2]; exact ⟨ha, ht⟩
    · exact h.keys c hh
  · show (GR.getC x y (GR.setC a t (some ⟨b, 0, none⟩) P.rs) = none ∧ _) ∨ ∃ q, GR.getC x y (GR.setC a t (some ⟨b, 0, none⟩) P.rs) = some (some ⟨q, 0, none⟩) ∧ RecB _ w' q (s.rc x y) ∧ _
    rw [hset]
    by_cases he : x = a ∧ y = t
    · rw [if_pos he, he.1, he.2, hz]
      exact .inr ⟨b, rfl, ⟨none, hb, fun _ => rfl, fun d hd => by cases hd⟩, .inr rfl⟩
    · rw [if_neg he]
      rcases h.recs x y with hh | ⟨q, e1, hr, hm⟩
      · exact .inl hh
      · exact .inr ⟨q, e1, (hr.keep k (hkM _ hm) hkM).mono (fun _ h => .inl h), .inl hm⟩
  · show ∀ (x y x' y' : Int) (q : Nat), GR.getC x y (GR.setC a t (some ⟨b, 0, none⟩) P.rs) = some (some ⟨q, 0, none⟩) → GR.getC x' y' (GR.setC a t (some ⟨b, 0, none⟩) P.rs) = some (some ⟨q, 0, none⟩) → x = x' ∧ y = y'
    have hold : ∀ (x y : Int) (q : Nat), GR.getC x y P.rs = some (some ⟨q, 0, none⟩) → q < w.heap.size := by
      intro x y q hq
      rcases h.recs x y with ⟨f1, _⟩ | ⟨q2, f1, hr, hm⟩
      · rw [hq] at f1; cases f1
      · rw [hq] at f1; cases f1; exact h.lt _ hm
    intro x y x' y' q
    rw [hset, hset]
    by_cases e1 : x = a ∧ y = t <;> by_cases e2 : x' = a ∧ y' = t
    · intro _ _; exact ⟨by omega, by omega⟩
    · rw [if_pos e1, if_neg e2]
      intro hq hq'; cases hq
      have := hold _ _ _ hq'; omega
    · rw [if_neg e1, if_pos e2]
      intro hq hq'; cases hq'
      have := hold _ _ _ hq; omega
    · rw [if_neg e1, if_neg e2]
      exact h.rinj x y x' y' q
  · rintro x (hx | hx | rfl)
    · exact Nat.lt_of_lt_of_le (h4 x hx) hsz
    · exact hG.lt x hx
    · exact hb.lt
  · rintro x (hx | hx | rfl)
    · exact .inl hx
    · exact (hfr x hx).imp (h2 x) id
    · exact .inr hge
theorem Vot.setCs {F1 F2 F1' : Nat → Prop} {P : VP} {s : VS} {cs : List GV.Ci} (h : VotX F1 F2 M w v P s) (h1 : ∀ q, F1 q → F q) (h2 : ∀ q, F2 q → F q) (h3 : ∀ q, M q → F q) (h4 : ∀ q, F q → q < w.heap.size) (k : Keep F1 w w') (hG : GV.Grd F1' w' P.gv cs) (hfr : ∀ q, F1' q → F1 q ∨ w.heap.size ≤ q) (hi : ({ s with cs := cs } : VS).Inv) :
    ∃ F', Vot F' w' v P { s with cs := cs } ∧ (∀ q, F' q → F q ∨ w.heap.size ≤ q) := by
  have hsz := k.size
  refine ⟨fun x => F x ∨ F1' x, ⟨F1', F2, M, h.keepM F1 k (fun x hx hf => h.d1 x hf hx) hi (fun _ h => h) (fun x hx => Nat.lt_of_lt_of_le (h.lt x hx) hsz) hG (h.gr.keep k (fun x hx hf => h.d12 x hf hx)) ?_ ?_ h.d2, fun x hx => .inr hx, fun x hx => .inl (h2 x hx), fun x hx => .inl (h3 x hx), ?_⟩, ?_⟩
  · intro x hx hx2
    rcases hfr x hx with hh | hh
    · exact h.d12 x hh hx2
    · have := h.gr.lt x hx2; omega
  · intro x hx hm
    rcases hfr x hx with hh | hh
    · exact h.d1 x hh hm
    · have := h.lt x hm; omega
  · rintro x (hx | hx)
    · exact Nat.lt_of_lt_of_le (h4 x hx) hsz
    · exact hG.lt x hx
  · rintro x (hx | hx)
    · exact .inl hx
    · exact (hfr x hx).imp (h1 x) id
end Go.Al
namespace Go.Al
open Go Go.RowKit Go.Proofs
variable {F : Nat → Prop} {a b : Int} {cs : List GR.Ci} {g : Nat} {w : World}
theorem vIn_spec (n lo hi : Int) (w : World) : Calls Tryz.prog 96 #[nt n, nt lo, nt hi] w fun e w' => e = .returned (.bool (decide (lo ≤ n ∧ n ≤ hi))) ∧ w' = w := by
 refine eV ?_
 refine Vr <| On 1 [0, 1, 2] <| Oer <| On 4 [0, 2, 10] ?_
 by_cases hg1 : n ≥ lo
 ·
  exact Dt 10 hg1 <| Oen [6] <| Rr (.bool (decide (n ≤ hi))) ⟨by congr 2; simp only [Bool.decide_and]; by_cases h1 : lo ≤ n <;> simp [h1] <;> omega, rfl⟩
 exact Df 10 hg1 <| Oen [6] <| Rr (.bool false) ⟨by congr 2; simp only [Bool.decide_and]; by_cases h1 : lo ≤ n <;> simp [h1] <;> omega, rfl⟩
theorem isAcc_spec (n : Int) (w : World) : Calls Tryz.prog 62 #[nt n] w fun e w' => e = .returned (.bool (decide (0 ≤ n ∧ n ≤ 9))) ∧ w' = w := by
 refine eV ?_
 exact Vr <| On 1 [0] <| Oer <| On 1 [3] <| Kq (vIn_spec n 0 9 _) <| Oen [2] <| Rr (.bool (decide ((0 : Int) ≤ n ∧ n ≤ 9))) ⟨rfl, rfl⟩
theorem isTrk_spec (n : Int) (w : World) : Calls Tryz.prog 97 #[nt n] w fun e w' => e = .returned (.bool (decide (0 ≤ n ∧ n ≤ 3))) ∧ w' = w := by
 refine eV ?_
 exact Vr <| On 1 [0] <| Oer <| On 1 [3] <| Kq (vIn_spec n 0 3 _) <| Oen [2] <| Rr (.bool (decide ((0 : Int) ≤ n ∧ n ≤ 3))) ⟨rfl, rfl⟩
theorem pollfn_at (v gv gr i : Nat) (pp : List (Option Addr)) (x : Option Addr) (w : World) (hv : Blk w v (pp.map Value.pointer ++ [pt gv, pt gr]) 127) (hlen : pp.length = 12) (hi : i < 12) (hx : pp[i]? = some x) : Calls Tryz.prog 64 #[pt v, nt (i : Int)] w (rk_ w (.pointer x)) := by
 have hK0 := Keep.refl none_ w
 refine eV ?_
 refine Vr <| On 1 [0, 1] <| Oe <| V_seq <| Vr <| On 4 [0, 1, 7, 8] <| Kq (vIn_spec (i : Int) 0 11 _) <| Oen [0, 1, 11] <| Vq (u := .bool (!(decide ((0 : Int) ≤ (i : Int) ∧ (i : Int) ≤ 11)))) (v := .bool false) 11 (by rw [decide_eq_true (by omega : (0 : Int) ≤ (i : Int) ∧ (i : Int) ≤ 11)]; rfl) <| Vf <| Vsk <| Vr <| On 4 [13, 15] <| OI_pure (some 16) (.indexAddr 125 (.tmp 15) (.tmp 13)) (by kernel_rfl) (pure_idxArr (b := v) (o := 0) (m := 12) (kd := .i64) (j := i) (E := 124) (sz := 1) (by kernel_rfl) (by kernel_rfl) (by kernel_rfl) (by omega)) <| Lc (0 + i * 1) (.pointer x) hv (by rw [show 0 + i * 1 = i by omega, List.getElem?_append_left (by rw [List.length_map]; omega), List.getElem?_map, hx]; rfl) ?_
 exact Oen [4] <| Rr (.pointer x) ⟨rfl, hK0⟩
theorem pollfn_out (v : Nat) (ref : Int) (w : World) (hr : ¬ (0 ≤ ref ∧ ref < 12)) : Calls Tryz.prog 64 #[pt v, nt ref] w (rk_ w (.pointer none)) := by
 have hK0 := Keep.refl none_ w
 refine eV ?_
 exact Vr <| On 1 [0, 1] <| Oe <| V_seq <| Vr <| On 4 [0, 1, 7, 8] <| Kq (vIn_spec ref 0 11 _) <| Oen [0, 1, 11] <| Vq (u := .bool (!(decide ((0 : Int) ≤ ref ∧ ref ≤ 11)))) (v := .bool true) 11 (by rw [decide_eq_false (by omega : ¬ ((0 : Int) ≤ ref ∧ ref ≤ 11))]; rfl) <| Vo <| Vn [4] <| Rt <| Xr (.pointer none) ⟨rfl, hK0⟩
theorem poll_some (F : Nat → Prop) (v : Nat) (P : VP) (s : VS) (i b : Nat) (w : World) (h : Vot F w v P s) (hi : i < 12) (e : P.pp[i]? = some (some ⟨b, 0, none⟩)) : Calls Tryz.prog 64 #[pt v, nt (i : Int)] w (rk_ w (pt b)) := pollfn_at v P.gv P.gr i P.pp _ w h.vblk.2 h.vblk.1 hi e
theorem poll_none (F : Nat → Prop) (v : Nat) (P : VP) (s : VS) (ref : Int) (w : World) (h : Vot F w v P s) (hc : ¬ (0 ≤ ref ∧ ref < 12) ∨ ∃ i : Nat, ref = (i : Int) ∧ i < 12 ∧ P.pp[i]? = some none) : Calls Tryz.prog 64 #[pt v, nt ref] w (rk_ w (.pointer none)) := by
  rcases hc with hc | ⟨i, rfl, hi, e⟩
  · exact pollfn_out v ref w hc
  · exact pollfn_at v P.gv P.gr i P.pp none w h.vblk.2 h.vblk.1 hi e
theorem grid_get_some {x : Option Addr} (h : GR.Grd F w g cs) (e : GR.getC a b cs = some x) : Calls Tryz.prog 108 #[pt g, nt a, nt b] w (rk_ w (.tuple #[.pointer x, .bool true])) :=
  (GR.get_spec F g cs a b w h.gr).mono (by rintro e' w' ⟨rfl, hk⟩; exact ⟨by rw [e]; rfl, hk⟩)
theorem grid_get_none (h : GR.Grd F w g cs) (e : GR.getC a b cs = none) : Calls Tryz.prog 108 #[pt g, nt a, nt b] w (rk_ w (.tuple #[.pointer none, .bool false])) :=
  (GR.get_spec F g cs a b w h.gr).mono (by rintro e' w' ⟨rfl, hk⟩; exact ⟨by rw [e]; rfl, hk⟩)
theorem sorted_len {l : List Int} {N : Nat} (hs : l.Pairwise (· < ·)) (hb : ∀ x ∈ l, 0 ≤ x ∧ x < N) : l.length ≤ N := by
  have key : ∀ (l : List Int) (lo : Int), l.Pairwise (· < ·) → (∀ x ∈ l, lo ≤ x ∧ x < N) → lo ≤ N → (l.length : Int) ≤ N - lo := by
    intro l
    induction l with
    | nil => intro lo _ _ h; simp; omega
    | cons x l ih =>
      intro lo hs hb hlo
      have h1 := hb x (List.mem_cons_self ..)
      have h2 := List.pairwise_cons.1 hs
      have h3 := ih (x + 1) h2.2 (fun y hy => ⟨by have := h2.1 y hy; omega, (hb y (List.mem_cons_of_mem _ hy)).2⟩) (by omega)
      simp only [List.length_cons]; omega
  have := key l 0 hs hb (by omega)
  omega
theorem GR.len40 (hs : GR.Srt cs) (hb : ∀ c ∈ cs, (0 ≤ c.a ∧ c.a < 10) ∧ (0 ≤ c.b ∧ c.b < 4)) : cs.length ≤ 40 := by
  have h1 : (cs.map fun c => c.a * 4 + c.b).length ≤ 40 := sorted_len (by
    rw [List.pairwise_map]
    refine List.Pairwise.imp_of_mem ?_ hs
    intro x y hx hy hxy
    have := hb x hx; have := hb y hy
    rcases hxy with h | h <;> omega) (by
    intro z hz
    obtain ⟨c, hc, rfl⟩ := List.mem_map.1 hz
    have := hb c hc; omega)
  simpa using h1
theorem GV.len120 {cs : List GV.Ci} (hs : GV.Srt cs) (hb : ∀ c ∈ cs, (0 ≤ c.a ∧ c.a < 10) ∧ (0 ≤ c.b ∧ c.b < 12)) : cs.length ≤ 120 := by
  have h1 : (cs.map fun c => c.a * 12 + c.b).length ≤ 120 := sorted_len (by
    rw [List.pairwise_map]
    refine List.Pairwise.imp_of_mem ?_ hs
    intro x y hx hy hxy
    have := hb x hx; have := hb y hy
    rcases hxy with h | h <;> omega) (by
    intro z hz
    obtain ⟨c, hc, rfl⟩ := List.mem_map.1 hz
    have := hb c hc; omega)
  simpa using h1
theorem set_grdO {x : Option Addr} (h : GR.Grd F w g cs) (hmax : cs.length < 100000) : Calls Tryz.prog 109 #[pt g, nt a, nt b, .pointer x] w fun e w' => e = .returned (.tuple #[]) ∧ (∃ F', GR.Grd F' w' g (GR.setC a b x cs) ∧ (∀ q, F' q → F q ∨ w.heap.size ≤ q)) ∧ Keep (only g) w w' :=
  (GR.set_spec (fun q => F q ∨ w.heap.size ≤ q) g cs a b x w (h.gr.mono (fun _ h => .inl h)) (fun _ h => .inr h) hmax).mono (by
    rintro e w' ⟨rfl, h1, h2⟩
    exact ⟨rfl, ⟨GR.more F w w', GR.Grd.of h1 (.inl h.at_) (fun q hq hD => hD.imp id (fun h => ⟨h, hq⟩)) (fun q hq => by rcases hq with hq | hq; exact Nat.lt_of_lt_of_le (h.lt q hq) h2.size; exact hq.2), fun q hq => hq.imp id (·.1)⟩, h2⟩)
theorem GR.Grd.ne (h : GR.Grd F w g cs) {x : Nat} {L : List Value} {t : TypeId} (hx : Blk w x L t) (ht : t ≠ 197) : x ≠ g := by
  obtain ⟨_, _, _, _, A, cap, h5, _⟩ := h
  exact Blk.ne hx h5.blk ht
theorem record_has (v gv gr : Nat) (pp : List (Option Addr)) (rs : List GR.Ci) (F2 : Nat → Prop) (a t : Int) (q : Nat) (w : World) (hv : Blk w v (pp.map Value.pointer ++ [pt gv, pt gr]) 127) (hlen : pp.length = 12) (hG : GR.Grd F2 w gr rs) (ha : 0 ≤ a ∧ a < 10) (ht : 0 ≤ t ∧ t < 4) (e : GR.getC a t rs = some (some ⟨q, 0, none⟩)) : Calls Tryz.prog 65 #[pt v, nt a, nt t] w (rk_ w (pt q)) := by
 have hK0 := Keep.refl none_ w
 refine eV ?_
 refine Vr <| On 1 [0, 1, 2] <| Oe <| V_seq <| Vr <| On 4 [0, 1, 2, 11, 12] <| Kq (isAcc_spec a _) <| On 8 [0, 1, 2, 16] <| Oq (u := .bool (!(decide (0 ≤ a ∧ a ≤ 9)))) (v := .bool false) 16 (by rw [decide_eq_true (by omega : 0 ≤ a ∧ a ≤ 9)]; rfl) <| On 9 [0, 1, 2, 16, 17] <| Kq (isTrk_spec t _) <| Oen [0, 1, 2, 20] <| Vq (u := .bool (!(decide (0 ≤ t ∧ t ≤ 3)))) (v := .bool false) 20 (by rw [decide_eq_true (by omega : 0 ≤ t ∧ t ≤ 3)]; rfl) <| Vf <| Vsk <| Vr <| On 3 [0, 1, 2, 26] <| Lc 13 (pt gr) hv (by rw [List.getElem?_append_right (by rw [List.length_map]; omega), List.length_map, hlen]; rfl) ?_
 refine On 6 [0, 1, 2, 27, 28, 29] <| Kk (grid_get_some hG e) fun w9 hk10 _ => ?_
 replace hK0 := hK0.tn hk10
 exact On 12 [0, 1, 2, 7, 8] <| Oe <| V_seq <| Vn [0, 1, 2, 7, 34] <| Vf <| Vsk <| Vn [6] <| Rr (pt q) ⟨rfl, hK0⟩
theorem record_new (v gv gr : Nat) (pp : List (Option Addr)) (rs : List GR.Ci) (F2 : Nat → Prop) (a t : Int) (w : World) (hv : Blk w v (pp.map Value.pointer ++ [pt gv, pt gr]) 127) (hlen : pp.length = 12) (hG : GR.Grd F2 w gr rs) (ha : 0 ≤ a ∧ a < 10) (ht : 0 ≤ t ∧ t < 4) (e : GR.getC a t rs = none) (hmax : rs.length < 100000) (hF2v : ∀ q, F2 q → q ≠ v) : Calls Tryz.prog 65 #[pt v, nt a, nt t] w fun e w' => ∃ (b : Nat) (F2' : Nat → Prop), e = .returned (pt b) ∧ w.heap.size ≤ b ∧ Blk w' b (RecS.cells none RecS.zero) 141 ∧ GR.Grd F2' w' gr (GR.setC a t (some ⟨b, 0, none⟩) rs) ∧ (∀ q, F2' q → F2 q ∨ w.heap.size ≤ q) ∧ ¬ F2' b ∧ Keep (only gr) w w' := by
 have hF2lt := GR.Grd.lt hG
 have hgrlt := hF2lt _ (GR.Grd.at_ hG)
 have hvlt := hv.lt
 have hgrv := hF2v _ (GR.Grd.at_ hG)
 have hK0 : Keep (only gr) w w := Keep.refl _ _
 refine eV ?_
 refine Vr <| On 1 [0, 1, 2] <| Oe <| V_seq <| Vr <| On 4 [0, 1, 2, 11, 12] <| Kq (isAcc_spec a _) <| On 8 [0, 1, 2, 16] <| Oq (u := .bool (!(decide (0 ≤ a ∧ a ≤ 9)))) (v := .bool false) 16 (by rw [decide_eq_true (by omega : 0 ≤ a ∧ a ≤ 9)]; rfl) <| On 9 [0, 1, 2, 16, 17] <| Kq (isTrk_spec t _) <| Oen [0, 1, 2, 20] <| Vq (u := .bool (!(decide (0 ≤ t ∧ t ≤ 3)))) (v := .bool false) 20 (by rw [decide_eq_true (by omega : 0 ≤ t ∧ t ≤ 3)]; rfl) <| Vf <| Vsk <| Vr <| On 3 [0, 1, 2, 26] <| Lc 13 (pt gr) hv (by rw [List.getElem?_append_right (by rw [List.length_map]; omega), List.length_map, hlen]; rfl) ?_
 refine On 6 [0, 1, 2, 27, 28, 29] <| Kk (grid_get_none hG e) fun w9 hk10 _ => ?_
 replace hG := GR.Grd.keep hG hk10 nk
 replace hK0 := hK0.tn hk10
 refine On 12 [0, 1, 2, 7, 8] <| Oe <| V_seq <| Vn [0, 1, 2, 7, 34] <| Vo <| Vr <| On 1 [0, 1, 2, 35] <| Bx 141 [.pointer none, nt 0, nt 0, nt 0, nt 0] ?_
 intro b12 w12 e12 hb12 k12 z12
 have hsz13 := Keep.size k12
 replace hv := hv.k0 (hk10.tr k12)
 replace hG := GR.Grd.keep hG k12 nk
 replace hK0 := hK0.tn k12
 have hb12lt := hb12.lt
 refine On 3 [0, 1, 2, 7] <| Oe <| V_region <| On 3 [1, 2, 7, 39] <| Lc 13 (pt gr) hv (by rw [List.getElem?_append_right (by rw [List.length_map]; omega), List.length_map, hlen]; rfl) ?_
 refine On 7 [7, 40, 41, 42, 43] <| Kg (set_grdO (a := a) (b := t) (x := (some ⟨b12, 0, none⟩)) hG hmax) ?_
 rintro _ w16 ⟨rfl, ⟨F18, ho19, hfr20⟩, hk17⟩
 refine ⟨_, rfl, ?_⟩
 have hsz21 := Keep.size hk17
 replace hb12 := hb12.k1 hk17
 replace hK0 := Keep.fr hK0 hk17
 have own23 : ∀ q, F18 q → q ≠ v ∧ q ≠ v ∧ q ≠ b12 := fun q hq => by rcases hfr20 q hq with h | h; (have h1 := hF2v q h; have h2 := hF2lt q h; omega); omega
 have lt22 := GR.Grd.lt ho19
 exact Oer <| Oen [6] <| Rr (pt b12) ⟨b12, F18, rfl, by omega, hb12, ho19, (fun x hx => by rcases hfr20 x hx with h | h; exact .inl h; exact .inr (by omega)),(fun hx => by have h1 := own23 _ hx; omega), hK0⟩
theorem record_spec (F : Nat → Prop) (v : Nat) (P : VP) (s : VS) (a t : Int) (w : World) (h : Vot F w v P s) (ha : 0 ≤ a ∧ a < 10) (ht : 0 ≤ t ∧ t < 4) : Calls Tryz.prog 65 #[pt v, nt a, nt t] w fun e w' => ∃ (b : Nat) (P' : VP), e = .returned (pt b) ∧ GR.getC a t P'.rs = some (some ⟨b, 0, none⟩) ∧ P'.pp = P.pp ∧ P'.gv = P.gv ∧ (∀ x y z, GR.getC x y P.rs = some z → GR.getC x y P'.rs = some z) ∧ (∀ x L, Blk w x L 307 → Blk w' x L 307) ∧ (∃ F', Vot F' w' v P' s ∧ (∀ q, F' q → F q ∨ w.heap.size ≤ q)) ∧ Keep F w w' := by
  obtain ⟨F1, F2, M, hX, h1, h2, h3, h4⟩ := h
  rcases hX.recs a t with ⟨e, _⟩ | ⟨q, e, _⟩
  · have hl := GR.len40 hX.gr.1 hX.keys
    refine (record_new v P.gv P.gr P.pp P.rs F2 a t w hX.blk hX.len hX.gr ha ht e (by omega) (fun q hq he => hX.d2 q hq (he ▸ hX.mv))).mono ?_
    rintro e' w' ⟨b, F2', rfl, hge, hb, hG, hfr, hnb, hk⟩
    have hk2 : Keep F2 w w' := hk.mono (fun q _ hq => by rw [show q = P.gr from hq]; exact hX.gr.at_)
    refine ⟨b, { P with rs := GR.setC a t (some ⟨b, 0, none⟩) P.rs }, rfl, ?_, rfl, rfl, ?_, fun x L hx => hx.keep hk (hX.gr.ne hx (by decide)), Vot.addRec hX h1 h2 h3 h4 ha ht e hk2 hG hfr hb hge hnb, hk2.mono (fun q _ hq => h2 q hq)⟩
    · show GR.getC a t (GR.setC a t _ P.rs) = _
      rw [GR.getC_set a t _ _ hX.gr.1, if_pos ⟨rfl, rfl⟩]
    · intro x y z hz
      show GR.getC x y (GR.setC a t _ P.rs) = _
      rw [GR.getC_set a t _ _ hX.gr.1]
      by_cases he : x = a ∧ y = t
      · rw [he.1, he.2, e] at hz; cases hz
      · rw [if_neg he]; exact hz
  · refine (record_has v P.gv P.gr P.pp P.rs F2 a t q w hX.blk hX.len hX.gr ha ht e).mono ?_
    rintro e' w' ⟨rfl, hk⟩
    exact ⟨q, P, rfl, e, rfl, rfl, fun _ _ _ h => h, fun x L hx => hx.keep hk id, ⟨F, Vot.keep ⟨F1, F2, M, hX, h1, h2, h3, h4⟩ hk nk, fun _ h => .inl h⟩, hk.ofNone⟩
end Go.Al
namespace Go.Al
open Go Go.RowKit Go.Proofs
variable {F : Nat → Prop} {s : VS} {v : Nat} {w w' : World}
def openE (s : VS) (ref t : Int) : Int := if ¬ (0 ≤ ref ∧ ref < 12) ∨ ¬ (0 ≤ t ∧ t < 4) then 1 else if (pollAt s ref).isSome then 5 else 0
def openS (s : VS) (ref t : Int) : VS := if openE s ref t = 0 then s.setP ref.toNat ⟨t, Tly.zero, 0, 0⟩ else s
def closeE (s : VS) (ref st : Int) : Int := match pollAt s ref with | none => 4 | some q => if q.state ≠ 0 then 9 else if ¬ (2 ≤ st ∧ st ≤ 6) then 1 else 0
def closeS (s : VS) (ref st e : Int) : VS := match pollAt s ref with | none => s | some q => if closeE s ref st = 0 then s.setP ref.toNat { q with state := st, stop := e } else s
def tallyT (s : VS) (ref : Int) : Tly := match pollAt s ref with | none => Tly.zero | some q => q.t
theorem open_bad (v : Nat) (ref t : Int) (w : World) (hr : ¬ (0 ≤ ref ∧ ref < 12) ∨ ¬ (0 ≤ t ∧ t < 4)) : Calls Tryz.prog 44 #[pt v, nt ref, nt t] w (rk_ w (nt 1)) := by
 have hK0 := Keep.refl none_ w
 refine eV ?_
 refine Vr <| On 1 [0, 1, 2] <| Oe <| V_seq <| V_block <| Vr <| On 4 [0, 1, 2, 10, 11] <| Kq (vIn_spec ref 0 11 _) <| On 8 [0, 1, 2, 15] ?_
 by_cases hg2 : (0 : Int) ≤ ref ∧ ref ≤ 11
 ·
  refine Nt 15 hg2 <| On 9 [0, 1, 2, 15, 16] <| Kq (isTrk_spec t _) <| Ose [(0, pt v),(1, nt ref),(2, nt t),(7, .bool (!(decide (0 ≤ t ∧ t ≤ 3))))] <| V_not (0 ≤ t ∧ t ≤ 3) (by kernel_rfl) (fun hc4 => ?_) (fun hc4 => ?_)
  ·
   exact Vn [6] <| V_ret <| X_ret_block <| X_ret_then <| Xr (nt 1) ⟨rfl, hK0⟩
  exact (by omega : False).elim
 exact Nf 15 hg2 <| Oen [0, 1, 2, 7] <| Vo <| Vn [6] <| V_ret <| X_ret_block <| X_ret_then <| Xr (nt 1) ⟨rfl, hK0⟩
theorem open_has (v gv gr i : Nat) (pp : List (Option Addr)) (b : Nat) (t : Int) (w : World) (hv : Blk w v (pp.map Value.pointer ++ [pt gv, pt gr]) 127) (hlen : pp.length = 12) (hi : i < 12) (hx : pp[i]? = some (some ⟨b, 0, none⟩)) (ht : 0 ≤ t ∧ t < 4) : Calls Tryz.prog 44 #[pt v, nt (i : Int), nt t] w (rk_ w (nt 5)) := by
 have hK0 := Keep.refl none_ w
 refine eV ?_
 refine Vr <| On 1 [0, 1, 2] <| Oe <| V_seq <| V_block <| Vr <| On 4 [0, 1, 2, 10, 11] <| Kq (vIn_spec (i : Int) 0 11 _) <| On 8 [0, 1, 2, 15] <| Oq (u := .bool (!(decide ((0 : Int) ≤ (i : Int) ∧ (i : Int) ≤ 11)))) (v := .bool false) 15 (by rw [decide_eq_true (by omega : (0 : Int) ≤ (i : Int) ∧ (i : Int) ≤ 11)]; rfl) <| On 9 [0, 1, 2, 15, 16] <| Kq (isTrk_spec t _) <| Oen [0, 1, 2, 7] <| Vq (u := .bool (!(decide (0 ≤ t ∧ t ≤ 3)))) (v := .bool false) 7 (by rw [decide_eq_true (by omega : 0 ≤ t ∧ t ≤ 3)]; rfl) <| Vf <| Vr <| On 2 [0, 1, 2, 21, 22] <| Kk (pollfn_at v gv gr i pp (some ⟨b, 0, none⟩) _ hv hlen hi hx) fun w9 hk10 _ => ?_
 replace hK0 := hK0.tn hk10
 exact Oen [0, 1, 2, 20] <| Vo <| Vn [6] <| V_ret <| X_ret_block <| X_ret_then <| Xr (nt 5) ⟨rfl, hK0⟩
theorem open_new (v gv gr i : Nat) (pp : List (Option Addr)) (t : Int) (w : World) (hv : Blk w v (pp.map Value.pointer ++ [pt gv, pt gr]) 127) (hlen : pp.length = 12) (hi : i < 12) (hx : pp[i]? = some none) (ht : 0 ≤ t ∧ t < 4) : Calls Tryz.prog 44 #[pt v, nt (i : Int), nt t] w fun e w' => ∃ b : Nat, e = .returned (nt 0) ∧ w.heap.size ≤ b ∧ Blk w' b (PollS.cells ⟨t, Tly.zero, 0, 0⟩) 133 ∧ Blk w' v ((pp.set i (some ⟨b, 0, none⟩)).map Value.pointer ++ [pt gv, pt gr]) 127 ∧ Keep (only v) w w' := by
 have hvlt := hv.lt
 have hK0 : Keep (only v) w w := Keep.refl _ _
 refine eV ?_
 refine Vr <| On 1 [0, 1, 2] <| Oe <| V_seq <| V_block <| Vr <| On 4 [0, 1, 2, 10, 11] <| Kq (vIn_spec (i : Int) 0 11 _) <| On 8 [0, 1, 2, 15] <| Oq (u := .bool (!(decide ((0 : Int) ≤ (i : Int) ∧ (i : Int) ≤ 11)))) (v := .bool false) 15 (by rw [decide_eq_true (by omega : (0 : Int) ≤ (i : Int) ∧ (i : Int) ≤ 11)]; rfl) <| On 9 [0, 1, 2, 15, 16] <| Kq (isTrk_spec t _) <| Oen [0, 1, 2, 7] <| Vq (u := .bool (!(decide (0 ≤ t ∧ t ≤ 3)))) (v := .bool false) 7 (by rw [decide_eq_true (by omega : 0 ≤ t ∧ t ≤ 3)]; rfl) <| Vf <| Vr <| On 2 [0, 1, 2, 21, 22] <| Kk (pollfn_at v gv gr i pp none _ hv hlen hi hx) fun w9 hk10 _ => ?_
 replace hK0 := hK0.tn hk10
 refine Oen [0, 1, 2, 20] <| Vf <| V_skip <| X_block <| X_then <| Vr <| On 4 [25, 26, 28] <| Bx 133 [nt t, nt 0, nt 0, nt 0, nt 0, nt 0] ?_
 intro b12 w12 e12 hb12 k12 z12
 have hsz13 := Keep.size k12
 replace hv := hv.k0 (hk10.tr k12)
 replace hK0 := hK0.tn k12
 have hb12lt := hb12.lt
 refine On 7 [26, 29, 31] <| OI_pure (some 32) (.indexAddr 125 (.tmp 31) (.tmp 26)) (by kernel_rfl) (pure_idxArr (b := v) (o := 0) (m := 12) (kd := .i64) (j := i) (E := 124) (sz := 1) (by kernel_rfl) (by kernel_rfl) (by kernel_rfl) (by omega)) <| OI_set (m := 1) (kd := false) 124 (.tmp 32) (.tmp 29) (0 + i * 1) (pt b12) [pt b12] none (by kernel_rfl) (by kernel_rfl) (by kernel_rfl) hv (by kernel_rfl) (by kernel_rfl) (by kernel_rfl) (by rw [List.length_append, List.length_map, hlen]; show 0 + i * 1 + 1 ≤ 14; omega) (by simp [Value.oneCell']) ?_
 intro w14 hv_17 hk15 hz16
 replace hv_17 : Blk w14 v ((pp.set i ((some ⟨b12, 0, none⟩))).map Value.pointer ++ [pt gv, pt gr]) 127 := (by rw [over_pp (by omega)] at hv_17; exact hv_17)
 have hsz18 := Keep.size hk15
 replace hb12 := hb12.k1 hk15
 replace hK0 := Keep.fr hK0 hk15
 exact Oer <| Oen [6] <| Rr (nt 0) ⟨b12, rfl, by omega, hb12, hv_17, hK0⟩
def VotE (F : Nat → Prop) (w : World) (v : Nat) (s : VS) : Prop := ∃ P, Vot F w v P s
theorem VotE.lt (h : VotE F w v s) : ∀ q, F q → q < w.heap.size := by obtain ⟨P, h⟩ := h; exact h.lt
theorem VotE.at_ (h : VotE F w v s) : F v := by obtain ⟨P, h⟩ := h; exact h.at_
theorem VotE.inv (h : VotE F w v s) : s.Inv := by obtain ⟨P, h⟩ := h; exact h.inv
theorem VotE.keep {S : Nat → Prop} (h : VotE F w v s) (k : Keep S w w') (hS : ∀ q, F q → ¬ S q) : VotE F w' v s := by obtain ⟨P, h⟩ := h; exact ⟨P, h.keep k hS⟩
theorem VotE.quiet {N : Nat} (h : VotE F w v s) (k : Keep (lb N w) w w') : VotE F w' v s := by obtain ⟨P, h⟩ := h; exact ⟨P, h.quiet k⟩
theorem VotE.same (h : VotE F w v s) (k : Keep none_ w w') : (∃ F', VotE F' w' v s ∧ (∀ q, F' q → F q ∨ w.heap.size ≤ q)) ∧ Keep F w w' := ⟨⟨F, h.keep k nk, fun _ h => .inl h⟩, k.ofNone⟩
theorem open_spec (F : Nat → Prop) (v : Nat) (s : VS) (ref t : Int) (w : World) (h : VotE F w v s) : Calls Tryz.prog 44 #[pt v, nt ref, nt t] w fun e w' => e = .returned (nt (openE s ref t)) ∧ (∃ F', VotE F' w' v (openS s ref t) ∧ (∀ q, F' q → F q ∨ w.heap.size ≤ q)) ∧ Keep F w w' := by
  by_cases hr : ¬ (0 ≤ ref ∧ ref < 12) ∨ ¬ (0 ≤ t ∧ t < 4)
  · have he : openE s ref t = 1 := by unfold openE; rw [if_pos hr]
    have hs : openS s ref t = s := by unfold openS; rw [he, if_neg (by decide)]
    rw [he, hs]
    refine (open_bad v ref t w hr).mono ?_
    rintro e w' ⟨rfl, hk⟩
    exact ⟨rfl, h.same hk⟩
  · obtain ⟨P, hP⟩ := h
    have hr2 : (0 ≤ ref ∧ ref < 12) ∧ (0 ≤ t ∧ t < 4) := by omega
    rcases hP.pollcase ref with ⟨hn, hc⟩ | ⟨i, b, q, rfl, hi, e1, e2, hs⟩
    · rcases hc with hc | ⟨i, rfl, hi, e1⟩
      · exact absurd hr2.1 hc
      have he : openE s (i : Int) t = 0 := by unfold openE; rw [if_neg hr, hn]; rfl
      have hs : openS s (i : Int) t = s.setP i ⟨t, Tly.zero, 0, 0⟩ := by unfold openS; rw [he, if_pos rfl, Int.toNat_natCast]
      rw [he, hs]
      refine (open_new v P.gv P.gr i P.pp t w hP.vblk.2 hP.vblk.1 hi e1 hr2.2).mono ?_
      rintro e w' ⟨b, rfl, hge, hb, hv, hk⟩
      obtain ⟨F', hF, hfr⟩ := hP.addPoll hi e1 hk hv hb hge
      exact ⟨rfl, ⟨F', ⟨_, hF⟩, hfr⟩, hk.mono (fun q _ hq => by rw [show q = v from hq]; exact hP.at_)⟩
    · have he : openE s (i : Int) t = 5 := by unfold openE; rw [if_neg hr, hs]; rfl
      have hs : openS s (i : Int) t = s := by unfold openS; rw [he, if_neg (by decide)]
      rw [he, hs]
      refine (open_has v P.gv P.gr i P.pp b t w hP.vblk.2 hP.vblk.1 hi e1 hr2.2).mono ?_
      rintro e w' ⟨rfl, hk⟩
      exact ⟨rfl, VotE.same ⟨P, hP⟩ hk⟩
theorem close_out (v : Nat) (ref st en : Int) (w : World) (hr : ¬ (0 ≤ ref ∧ ref < 12)) : Calls Tryz.prog 42 #[pt v, nt ref, nt st, nt en] w (rk_ w (nt 4)) := by
 have hK0 := Keep.refl none_ w
 refine eV ?_
 refine Vr <| On 1 [0, 1, 2, 3] <| Oer <| On 2 [0, 2, 3, 10, 11] <| Kk (pollfn_out v ref _ hr) fun w1 hk2 _ => ?_
 replace hK0 := hK0.tn hk2
 exact On 4 [0, 2, 3, 9] <| Oe <| V_seq <| V_block <| Vn [2, 3, 9, 13] <| Vf <| Vn [2, 3, 9, 16] <| Vo <| Vn [8] <| V_ret <| X_ret_block <| X_ret_then <| Xr (nt 4) ⟨rfl, hK0⟩
theorem close_none (v gv gr i : Nat) (pp : List (Option Addr)) (st en : Int) (w : World) (hv : Blk w v (pp.map Value.pointer ++ [pt gv, pt gr]) 127) (hlen : pp.length = 12) (hi : i < 12) (hx : pp[i]? = some none) : Calls Tryz.prog 42 #[pt v, nt (i : Int), nt st, nt en] w (rk_ w (nt 4)) := by
 have hK0 := Keep.refl none_ w
 refine eV ?_
 refine Vr <| On 1 [0, 1, 2, 3] <| Oer <| On 2 [0, 2, 3, 10, 11] <| Kk (pollfn_at v gv gr i pp none _ hv hlen hi hx) fun w1 hk2 _ => ?_
 replace hK0 := hK0.tn hk2
 exact On 4 [0, 2, 3, 9] <| Oe <| V_seq <| V_block <| Vn [2, 3, 9, 13] <| Vf <| Vn [2, 3, 9, 16] <| Vo <| Vn [8] <| V_ret <| X_ret_block <| X_ret_then <| Xr (nt 4) ⟨rfl, hK0⟩
theorem close_bad (v gv gr i : Nat) (pp : List (Option Addr)) (b : Nat) (q : PollS) (st en : Int) (w : World) (hv : Blk w v (pp.map Value.pointer ++ [pt gv, pt gr]) 127) (hlen : pp.length = 12) (hi : i < 12) (hx : pp[i]? = some (some ⟨b, 0, none⟩)) (hb : Blk w b q.cells 133) (hq : q.state ≠ 0 ∨ ¬ (2 ≤ st ∧ st ≤ 6)) : Calls Tryz.prog 42 #[pt v, nt (i : Int), nt st, nt en] w fun e w' => e = .returned (nt (if q.state ≠ 0 then 9 else 1)) ∧ Keep none_ w w' := by
 have hvlt := hv.lt
 have hblt := hb.lt
 have hK0 := Keep.refl none_ w
 refine eV ?_
 refine Vr <| On 1 [0, 1, 2, 3] <| Oer <| On 2 [0, 2, 3, 10, 11] <| Kk (pollfn_at v gv gr i pp (some ⟨b, 0, none⟩) _ hv hlen hi hx) fun w1 hk2 _ => ?_
 replace hb := hb.k0 hk2
 replace hK0 := hK0.tn hk2
 refine On 4 [0, 2, 3, 9] <| Oe <| V_seq <| V_block <| Vn [2, 3, 9, 13] <| Vf <| Vn [2, 3, 9, 16] <| Vf <| Vr <| On 3 [2, 3, 9, 22] <| Lr 4 (nt q.state) hb <| Oen [2, 3, 9, 19] <| V_not (q.state = 0) (by kernel_rfl) (fun hc4 => ?_) (fun hc4 => ?_)
 ·
  exact Vn [8] <| V_ret <| X_ret_block <| X_ret_then <| Xr (nt 9) ⟨by simp [*], hK0⟩
 refine Vr <| On 1 [2, 3, 9, 26] <| Kq (vIn_spec st 2 6 _) <| Ose [(2, nt st),(3, nt en),(9, pt b),(25, .bool (!(decide ((2 : Int) ≤ st ∧ st ≤ 6))))] <| V_not ((2 : Int) ≤ st ∧ st ≤ 6) (by kernel_rfl) (fun hc8 => ?_) (fun hc8 => ?_)
 ·
  exact Vn [8] <| V_ret <| X_ret_block <| X_ret_then <| Xr (nt 1) ⟨by simp [*], hK0⟩
 exact (by omega : False).elim
theorem close_ok (v gv gr i : Nat) (pp : List (Option Addr)) (b : Nat) (q : PollS) (st en : Int) (w : World) (hv : Blk w v (pp.map Value.pointer ++ [pt gv, pt gr]) 127) (hlen : pp.length = 12) (hi : i < 12) (hx : pp[i]? = some (some ⟨b, 0, none⟩)) (hb : Blk w b q.cells 133) (hvb : v ≠ b) (hq : q.state = 0) (hs : 2 ≤ st ∧ st ≤ 6) : Calls Tryz.prog 42 #[pt v, nt (i : Int), nt st, nt en] w fun e w' => e = .returned (nt 0) ∧ Blk w' b (PollS.cells { q with state := st, stop := en }) 133 ∧ Keep (only b) w w' := by
 have hvlt := hv.lt
 have hblt := hb.lt
 have hK0 : Keep (only b) w w := Keep.refl _ _
 refine eV ?_
 refine Vr <| On 1 [0, 1, 2, 3] <| Oer <| On 2 [0, 2, 3, 10, 11] <| Kk (pollfn_at v gv gr i pp (some ⟨b, 0, none⟩) _ hv hlen hi hx) fun w1 hk2 _ => ?_
 replace hb := hb.k0 hk2
 replace hK0 := hK0.tn hk2
 refine On 4 [0, 2, 3, 9] <| Oe <| V_seq <| V_block <| Vn [2, 3, 9, 13] <| Vf <| Vn [2, 3, 9, 16] <| Vf <| Vr <| On 3 [2, 3, 9, 22] <| Lr 4 (nt q.state) hb <| Oen [2, 3, 9, 19] <| Vq (u := .bool (!(decide (q.state = 0)))) (v := .bool false) 19 (by rw [decide_eq_true (by omega : q.state = 0)]; rfl) <| Vf <| Vr <| On 1 [2, 3, 9, 26] <| Kq (vIn_spec st 2 6 _) <| Oen [2, 3, 9, 25] <| Vq (u := .bool (!(decide ((2 : Int) ≤ st ∧ st ≤ 6)))) (v := .bool false) 25 (by rw [decide_eq_true (by omega : (2 : Int) ≤ st ∧ st ≤ 6)]; rfl) <| Vf <| V_skip <| X_block <| X_then <| Vr <| On 6 [30, 31, 32, 34] <| St_ 4 (nt st) hb ?_
 intro w9 hb_12 hk10 hz11
 replace hb_12 : Blk w9 b [nt q.track, nt q.t.a, nt q.t.n, nt q.t.s, nt st, nt q.stop] 133 := hb_12
 have hsz13 := Keep.size hk10
 replace hK0 := Keep.fr hK0 hk10
 refine On 9 [32, 36] <| St_ 5 (nt en) hb_12 ?_
 intro w14 hb_17 hk15 hz16
 replace hb_17 : Blk w14 b [nt q.track, nt q.t.a, nt q.t.n, nt q.t.s, nt st, nt en] 133 := hb_17
 have hsz18 := Keep.size hk15
 replace hK0 := Keep.fr hK0 hk15
 exact Oer <| Oen [8] <| Rr (nt 0) ⟨rfl, hb_17, hK0⟩
theorem close_spec (F : Nat → Prop) (v : Nat) (s : VS) (ref st en : Int) (w : World) (h : VotE F w v s) : Calls Tryz.prog 42 #[pt v, nt ref, nt st, nt en] w fun e w' => e = .returned (nt (closeE s ref st)) ∧ (∃ F', VotE F' w' v (closeS s ref st en) ∧ (∀ q, F' q → F q ∨ w.heap.size ≤ q)) ∧ Keep F w w' := by
  obtain ⟨P, hP⟩ := h
  rcases hP.pollcase ref with ⟨hn, hc⟩ | ⟨i, b, q, rfl, hi, e1, e2, hs⟩
  · have he : closeE s ref st = 4 := by unfold closeE; rw [hn]
    have hs : closeS s ref st en = s := by unfold closeS; rw [hn]
    rw [he, hs]
    rcases hc with hc | ⟨i, rfl, hi, e1⟩
    · refine (close_out v ref st en w hc).mono ?_
      rintro e w' ⟨rfl, hk⟩
      exact ⟨rfl, VotE.same ⟨P, hP⟩ hk⟩
    · refine (close_none v P.gv P.gr i P.pp st en w hP.vblk.2 hP.vblk.1 hi e1).mono ?_
      rintro e w' ⟨rfl, hk⟩
      exact ⟨rfl, VotE.same ⟨P, hP⟩ hk⟩
  · obtain ⟨hb, hF⟩ := hP.pollB e1 e2
    by_cases hq : q.state ≠ 0 ∨ ¬ (2 ≤ st ∧ st ≤ 6)
    · have he : closeE s (i : Int) st = if q.state ≠ 0 then 9 else 1 := by
        unfold closeE; rw [hs]; dsimp only
        by_cases h9 : q.state ≠ 0
        · rw [if_pos h9, if_pos h9]
        · rw [if_neg h9, if_neg h9, if_pos (hq.resolve_left h9)]
      have hs2 : closeS s (i : Int) st en = s := by
        unfold closeS; rw [hs, he]; dsimp only
        rw [if_neg]; split <;> decide
      rw [he, hs2]
      refine (close_bad v P.gv P.gr i P.pp b q st en w hP.vblk.2 hP.vblk.1 hi e1 hb hq).mono ?_
      rintro e w' ⟨rfl, hk⟩
      exact ⟨rfl, VotE.same ⟨P, hP⟩ hk⟩
    · have hq2 : q.state = 0 ∧ (2 ≤ st ∧ st ≤ 6) := by omega
      have he : closeE s (i : Int) st = 0 := by unfold closeE; rw [hs]; dsimp only; rw [if_neg (by omega), if_neg (by omega)]
      have hs2 : closeS s (i : Int) st en = s.setP i { q with state := st, stop := en } := by unfold closeS; rw [hs, he]; dsimp only; rw [if_pos rfl, Int.toNat_natCast]
      rw [he, hs2]
      refine (close_ok v P.gv P.gr i P.pp b q st en w hP.vblk.2 hP.vblk.1 hi e1 hb (Blk.ne hP.vblk.2 hb (by decide)) hq2.1 hq2.2).mono ?_
      rintro e w' ⟨rfl, hb', hk⟩
      exact ⟨rfl, ⟨F, ⟨P, hP.setPoll e1 e2 hk hb'⟩, fun _ h => .inl h⟩, hk.mono (fun x _ hx => by rw [show x = b from hx]; exact hF)⟩
theorem tally_out (v : Nat) (ref : Int) (w : World) (hr : ¬ (0 ≤ ref ∧ ref < 12)) : Calls Tryz.prog 32 #[pt v, nt ref] w fun e w' => e = .returned (.agg (Tly.cells Tly.zero).toArray) ∧ Keep none_ w w' := by
 have hK0 := Keep.refl none_ w
 refine enterM Tryz.func32 rfl [pt v, nt ref] 16 rfl rfl rfl ?_
 refine Vp [(0, pt v),(1, nt ref)] <| Vr <| Alc_ 55 (.agg #[nt 0, nt 0, nt 0]) [nt 0, nt 0, nt 0] ?_
 intro b1 w1 e1 hb1 k1 z1
 have hsz2 := Keep.size k1
 replace hK0 := hK0.tn k1
 have hb1lt := hb1.lt
 refine Oer <| On 2 [4, 6, 7] <| Kk (pollfn_out v ref _ hr) fun w3 hk4 _ => ?_
 replace hb1 := hb1.k0 hk4
 replace hK0 := hK0.tn hk4
 refine On 4 [4, 5] <| Oe <| V_seq <| Vn [4, 5, 10] <| Vo <| Vr <| Os 1 [(4, pt b1),(11, .agg #[nt 0, nt 0, nt 0])] <| OI_set (m := 3) (kd := true) 55 (.tmp 4) (.tmp 11) 0 (.agg #[nt 0, nt 0, nt 0]) [nt 0, nt 0, nt 0] none (by kernel_rfl) (by kernel_rfl) (by kernel_rfl) hb1 (by kernel_rfl) (by kernel_rfl) (by kernel_rfl) (Nat.le_of_ble_eq_true (by kernel_rfl)) (by simp [Value.oneCell']) ?_
 intro w6 hb1_9 hk7 hz8
 replace hb1_9 : Blk w6 b1 [nt 0, nt 0, nt 0] 55 := hb1_9
 have hsz10 := Keep.size hk7
 replace hK0 := Keep.fr hK0 hk7
 refine Oe <| Rt ?_
 exact leave0 (.agg [nt 0, nt 0, nt 0].toArray) (.inl rfl) (res_agg1 (m := 3) rfl rfl (by kernel_rfl) hb1_9 rfl) ⟨rfl, hK0⟩
theorem tally_none (v gv gr i : Nat) (pp : List (Option Addr)) (w : World) (hv : Blk w v (pp.map Value.pointer ++ [pt gv, pt gr]) 127) (hlen : pp.length = 12) (hi : i < 12) (hx : pp[i]? = some none) : Calls Tryz.prog 32 #[pt v, nt (i : Int)] w fun e w' => e = .returned (.agg (Tly.cells Tly.zero).toArray) ∧ Keep none_ w w' := by
 have hvlt := hv.lt
 have hK0 := Keep.refl none_ w
 refine enterM Tryz.func32 rfl [pt v, nt (i : Int)] 16 rfl rfl rfl ?_
 refine Vp [(0, pt v),(1, nt (i : Int))] <| Vr <| Alc_ 55 (.agg #[nt 0, nt 0, nt 0]) [nt 0, nt 0, nt 0] ?_
 intro b1 w1 e1 hb1 k1 z1
 have hsz2 := Keep.size k1
 replace hv := hv.k0 k1
 replace hK0 := hK0.tn k1
 have hb1lt := hb1.lt
 refine Oer <| On 2 [4, 6, 7] <| Kk (pollfn_at v gv gr i pp none _ hv hlen hi hx) fun w3 hk4 _ => ?_
 replace hb1 := hb1.k0 hk4
 replace hK0 := hK0.tn hk4
 refine On 4 [4, 5] <| Oe <| V_seq <| Vn [4, 5, 10] <| Vo <| Vr <| Os 1 [(4, pt b1),(11, .agg #[nt 0, nt 0, nt 0])] <| OI_set (m := 3) (kd := true) 55 (.tmp 4) (.tmp 11) 0 (.agg #[nt 0, nt 0, nt 0]) [nt 0, nt 0, nt 0] none (by kernel_rfl) (by kernel_rfl) (by kernel_rfl) hb1 (by kernel_rfl) (by kernel_rfl) (by kernel_rfl) (Nat.le_of_ble_eq_true (by kernel_rfl)) (by simp [Value.oneCell']) ?_
 intro w6 hb1_9 hk7 hz8
 replace hb1_9 : Blk w6 b1 [nt 0, nt 0, nt 0] 55 := hb1_9
 have hsz10 := Keep.size hk7
 replace hK0 := Keep.fr hK0 hk7
 refine Oe <| Rt ?_
 exact leave0 (.agg [nt 0, nt 0, nt 0].toArray) (.inl rfl) (res_agg1 (m := 3) rfl rfl (by kernel_rfl) hb1_9 rfl) ⟨rfl, hK0⟩
theorem tally_some (v gv gr i : Nat) (pp : List (Option Addr)) (b : Nat) (q : PollS) (w : World) (hv : Blk w v (pp.map Value.pointer ++ [pt gv, pt gr]) 127) (hlen : pp.length = 12) (hi : i < 12) (hx : pp[i]? = some (some ⟨b, 0, none⟩)) (hb : Blk w b q.cells 133) : Calls Tryz.prog 32 #[pt v, nt (i : Int)] w fun e w' => e = .returned (.agg (Tly.cells q.t).toArray) ∧ Keep none_ w w' := by
 have hvlt := hv.lt
 have hblt := hb.lt
 have hK0 := Keep.refl none_ w
 refine enterM Tryz.func32 rfl [pt v, nt (i : Int)] 16 rfl rfl rfl ?_
 refine Vp [(0, pt v),(1, nt (i : Int))] <| Vr <| Alc_ 55 (.agg #[nt 0, nt 0, nt 0]) [nt 0, nt 0, nt 0] ?_
 intro b1 w1 e1 hb1 k1 z1
 have hsz2 := Keep.size k1
 replace hv := hv.k0 k1
 replace hK0 := hK0.tn k1
 have hb1lt := hb1.lt
 refine Oer <| On 2 [4, 6, 7] <| Kk (pollfn_at v gv gr i pp (some ⟨b, 0, none⟩) _ hv hlen hi hx) fun w3 hk4 _ => ?_
 replace hb := hb.k0 (k1.tr hk4)
 replace hb1 := hb1.k0 hk4
 replace hK0 := hK0.tn hk4
 refine On 4 [4, 5] <| Oe <| V_seq <| Vn [4, 5, 10] <| Vf <| Vsk <| Vr <| Os 3 [(4, pt b1),(14, po_ b 1)] <| Oa 55 (.tmp 14) 1 [nt q.t.a, nt q.t.n, nt q.t.s] (some 15) 3 hb rfl rfl <| OI_set (m := 3) (kd := true) 55 (.tmp 4) (.tmp 15) 0 (.agg #[nt q.t.a, nt q.t.n, nt q.t.s]) [nt q.t.a, nt q.t.n, nt q.t.s] none (by kernel_rfl) (by kernel_rfl) (by kernel_rfl) hb1 (by kernel_rfl) (by kernel_rfl) (by kernel_rfl) (Nat.le_of_ble_eq_true (by kernel_rfl)) (by simp [Value.oneCell']) ?_
 intro w6 hb1_9 hk7 hz8
 replace hb1_9 : Blk w6 b1 [nt q.t.a, nt q.t.n, nt q.t.s] 55 := hb1_9
 have hsz10 := Keep.size hk7
 replace hK0 := Keep.fr hK0 hk7
 refine Oe <| V_ret ?_
 exact leave0 (.agg [nt q.t.a, nt q.t.n, nt q.t.s].toArray) (.inl rfl) (res_agg1 (m := 3) rfl rfl (by kernel_rfl) hb1_9 rfl) ⟨rfl, hK0⟩
theorem tally_spec (F : Nat → Prop) (v : Nat) (s : VS) (ref : Int) (w : World) (h : VotE F w v s) : Calls Tryz.prog 32 #[pt v, nt ref] w fun e w' => e = .returned (.agg (Tly.cells (tallyT s ref)).toArray) ∧ Keep none_ w w' := by
  obtain ⟨P, hP⟩ := h
  rcases hP.pollcase ref with ⟨hn, hc⟩ | ⟨i, b, q, rfl, hi, e1, e2, hs⟩
  · rw [show tallyT s ref = Tly.zero by unfold tallyT; rw [hn]]
    rcases hc with hc | ⟨i, rfl, hi, e1⟩
    · exact tally_out v ref w hc
    · exact tally_none v P.gv P.gr i P.pp w hP.vblk.2 hP.vblk.1 hi e1
  · rw [show tallyT s (i : Int) = q.t by unfold tallyT; rw [hs]]
    exact tally_some v P.gv P.gr i P.pp b q w hP.vblk.2 hP.vblk.1 hi e1 (hP.pollB e1 e2).1
theorem Vot.recN {P : VP} (h : Vot F w v P s) {a t : Int} {q : Nat} (e : GR.getC a t P.rs = some (some ⟨q, 0, none⟩)) (hd : (s.rc a t).d = none) : F q ∧ Blk w q (RecS.cells none (s.rc a t)) 141 := by
  obtain ⟨hF, (⟨_, h⟩ | ⟨d, b, h1, _⟩)⟩ := h.recX e
  · exact ⟨hF, h⟩
  · rw [hd] at h1; cases h1
theorem Vot.recD {P : VP} (h : Vot F w v P s) {a t : Int} {q : Nat} {d : DelS} (e : GR.getC a t P.rs = some (some ⟨q, 0, none⟩)) (hd : (s.rc a t).d = some d) : ∃ b, F q ∧ F b ∧ Blk w q (RecS.cells (some ⟨b, 0, none⟩) (s.rc a t)) 141 ∧ Blk w b d.cells 307 := by
  obtain ⟨hF, (⟨h1, _⟩ | ⟨d', b, h1, h2, h3, h4⟩)⟩ := h.recX e
  · rw [hd] at h1; cases h1
  · rw [hd] at h1; cases h1; exact ⟨b, hF, h4, h2, h3⟩
end Go.Al
namespace Go.Al
open Go Go.RowKit Go.Proofs
variable {a t : Int} {c : Int × Vt} {k : Nat} {s : VS}
def trk (s : VS) (ref : Int) : Int := match s.ps[ref.toNat]? with | some (some q) => q.track | _ => -1
def vrow (s : VS) (a t : Int) : List (Int × Vt) := (GV.rowL a s.cs).filter (fun p => trk s p.1 == t)
def vtake (s : VS) (a t : Int) (k : Nat) : List (Int × Vt) := ((GV.rowL a s.cs).take k).filter (fun p => trk s p.1 == t)
theorem vtake_all (s : VS) (a t : Int) : vtake s a t (GV.rowL a s.cs).length = vrow s a t := by unfold vtake vrow; rw [List.take_length]
theorem vtake_step (h : (GV.rowL a s.cs)[k]? = some c) : vtake s a t (k + 1) = if trk s c.1 = t then vtake s a t k ++ [c] else vtake s a t k := by
  have := GV.fm_step (fun p : Int × Vt => trk s p.1 == t) id h
  simpa [vtake] using this
theorem vtake_at (h : (GV.rowL a s.cs)[k]? = some c) (hc : trk s c.1 = t) : (vrow s a t)[(vtake s a t k).length]? = some c ∧ (vtake s a t k).length < (vrow s a t).length := by
  have := GV.fm_at (fun p : Int × Vt => trk s p.1 == t) id h (by simp [hc])
  simpa [vtake, vrow] using this
theorem rowL_mem {cs : List GV.Ci} (h : (GV.rowL a cs)[k]? = some c) : ∃ x ∈ cs, x.a = a ∧ x.b = c.1 ∧ x.v = c.2 := by
  have hm := List.mem_of_getElem? h
  unfold GV.rowL at hm
  obtain ⟨x, hx, rfl⟩ := List.mem_map.1 hm
  obtain ⟨h1, h2⟩ := List.mem_filter.1 hx
  exact ⟨x, h1, by simpa using h2, rfl, rfl⟩
theorem vrow_len (s : VS) (a t : Int) : (vrow s a t).length ≤ s.cs.length := by
  unfold vrow GV.rowL
  refine Nat.le_trans (List.length_filter_le _ _) ?_
  rw [List.length_map]
  exact List.length_filter_le _ _
structure VtOk (bv bw bt v gv gr : Nat) (pp : List (Option Addr)) (a t : Int) (s : VS) (A : Option Addr) (cap : Nat) (W : World) : Prop where
  hv : Blk W bv [pt v] 33
  hw : Blk W bw [nt a] 3
  ht : Blk W bt [nt t] 3
  blk : Blk W v (pp.map Value.pointer ++ [pt gv, pt gr]) 127
  len : pp.length = 12
  polls : ∀ c ∈ s.cs, ∃ (i b : Nat) (q : PollS), c.b = (i : Int) ∧ i < 12 ∧ pp[i]? = some (some ⟨b, 0, none⟩) ∧ Blk W b q.cells 133 ∧ q.track = trk s c.b
  sl : SlT W 8 GV.Ci.cells A cap s.cs
theorem VtOk.quiet {N bv bw bt v gv gr : Nat} {pp : List (Option Addr)} {A : Option Addr} {cap : Nat} {W W' : World} (h : VtOk bv bw bt v gv gr pp a t s A cap W) (k : Keep (lb N W) W W') : VtOk bv bw bt v gv gr pp a t s A cap W' :=
  ⟨h.hv.quiet k, h.hw.quiet k, h.ht.quiet k, h.blk.quiet k, h.len, fun c hc => by
    obtain ⟨i, b, q, h1, h2, h3, h4, h5⟩ := h.polls c hc
    exact ⟨i, b, q, h1, h2, h3, h4.quiet k, h5⟩, h.sl.quiet k⟩
def VotA (A : Option Addr) (cap : Nat) (F : Nat → Prop) (w : World) (v : Nat) (P : VP) (s : VS) : Prop := ∃ F1 F2 M, VotX F1 F2 M w v P s ∧ GV.GrAt w P.gv A cap s.cs ∧ (∀ q, inA A q → F1 q) ∧ (∀ q, F1 q → F q) ∧ (∀ q, F2 q → F q) ∧ (∀ q, M q → F q) ∧ (∀ q, F q → q < w.heap.size)
theorem Vot.arr {F : Nat → Prop} {w : World} {v : Nat} {P : VP} (h : Vot F w v P s) : ∃ A cap, VotA A cap F w v P s := by
  obtain ⟨F1, F2, M, h, h1, h2, h3, h4⟩ := h
  obtain ⟨_, _, _, _, A, cap, h5, h6⟩ := h.gv
  exact ⟨A, cap, F1, F2, M, h, h5, h6, h1, h2, h3, h4⟩
section
variable {A : Option Addr} {cap : Nat} {F S : Nat → Prop} {w w' : World} {v N : Nat} {P : VP} {s : VS}
theorem VotA.vot (h : VotA A cap F w v P s) : Vot F w v P s := by
  obtain ⟨F1, F2, M, h, _, _, h1, h2, h3, h4⟩ := h
  exact ⟨F1, F2, M, h, h1, h2, h3, h4⟩
theorem VotA.lt (h : VotA A cap F w v P s) : ∀ q, F q → q < w.heap.size := h.vot.lt
theorem VotA.at_ (h : VotA A cap F w v P s) : F v := h.vot.at_
theorem VotA.keep (h : VotA A cap F w v P s) (k : Keep S w w') (hS : ∀ q, F q → ¬ S q) : VotA A cap F w' v P s := by
  obtain ⟨F1, F2, M, h, hg, hA, h1, h2, h3, h4⟩ := h
  exact ⟨F1, F2, M, h.keepM S k (fun q hq => hS q (h3 q hq)) h.inv (fun _ h => h) (fun q hq => Nat.lt_of_lt_of_le (h.lt q hq) k.size) (h.gv.keep k (fun q hq => hS q (h1 q hq))) (h.gr.keep k (fun q hq => hS q (h2 q hq))) h.d12 h.d1 h.d2,
    ⟨hg.blk.keep k (hS _ (h1 _ h.gv.at_)), hg.sl.keep k (fun q hq => hS _ (h1 _ (hA q hq))), hg.off⟩, hA, h1, h2, h3, fun q hq => Nat.lt_of_lt_of_le (h4 q hq) k.size⟩
theorem VotA.quiet (h : VotA A cap F w v P s) (k : Keep (lb N w) w w') : VotA A cap F w' v P s := by
  obtain ⟨F1, F2, M, h, hg, hA, h1, h2, h3, h4⟩ := h
  refine ⟨F1, F2, M, ⟨h.inv, h.gv.quiet k, h.gr.quiet k, h.mv, fun q hq => Nat.lt_of_lt_of_le (h.lt q hq) k.size, h.d12, h.d1, h.d2, h.len, h.blk.quiet k, fun i hi => ?_, h.pinj, h.keys, fun a t => ?_, h.rinj⟩, hg.quiet k, hA, h1, h2, h3, fun q hq => Nat.lt_of_lt_of_le (h4 q hq) k.size⟩
  · rcases h.polls i hi with h | ⟨b, p, e1, e2, hb, hm⟩
    · exact .inl h
    · exact .inr ⟨b, p, e1, e2, hb.quiet k, hm⟩
  · rcases h.recs a t with h | ⟨q, e, hr, hm⟩
    · exact .inl h
    · exact .inr ⟨q, e, hr.quiet k, hm⟩
theorem VotA.setPoll (h : VotA A cap F w v P s) {i b : Nat} {p p' : PollS} (e : P.pp[i]? = some (some ⟨b, 0, none⟩)) (e2 : s.ps[i]? = some (some p)) (k : Keep (only b) w w') (hb' : Blk w' b p'.cells 133) : VotA A cap F w' v P (s.setP i p') := by
  obtain ⟨F1, F2, M, h, hg, hA, h1, h2, h3, h4⟩ := h
  obtain ⟨hX, hM⟩ := h.setPoll e e2 k hb'
  have hn : ∀ q, F1 q → ¬ only b q := fun q hq hs => h.d1 q hq (by rw [show q = b from hs]; exact hM)
  exact ⟨F1, F2, M, hX, ⟨hg.blk.keep k (hn _ h.gv.at_), hg.sl.keep k (fun q hq => hn q (hA q hq)), hg.off⟩, hA, h1, h2, h3, fun q hq => Nat.lt_of_lt_of_le (h4 q hq) k.size⟩
theorem VotA.ok (h : VotA A cap F w v P s) {s0 : VS} (hcs : s.cs = s0.cs) (htr : ∀ r, trk s r = trk s0 r) {bv bw bt : Nat} (hv : Blk w bv [pt v] 33) (hw : Blk w bw [nt a] 3) (ht : Blk w bt [nt t] 3) : VtOk bv bw bt v P.gv P.gr P.pp a t s0 A cap w := by
  obtain ⟨F1, F2, M, h, hg, _⟩ := h
  refine ⟨hv, hw, ht, h.blk, h.len, fun c hc => ?_, by rw [← hcs]; exact hg.sl⟩
  obtain ⟨g1, g2, g3, q0, g4⟩ := h.inv.votes c (by rw [hcs]; exact hc)
  obtain ⟨i, hi⟩ : ∃ i : Nat, c.b = i := ⟨c.b.toNat, by omega⟩
  rcases h.polls i (by omega) with ⟨e1, e2⟩ | ⟨b, q, e1, e2, hb, _⟩
  · rw [hi, Int.toNat_natCast, e2] at g4; cases g4
  · refine ⟨i, b, q, hi, by omega, e1, hb, ?_⟩
    rw [← htr, hi]; unfold trk; rw [Int.toNat_natCast, e2]
theorem VotA.grat (h : VotA A cap F w v P s) : GV.GrAt w P.gv A cap s.cs := by
  obtain ⟨F1, F2, M, h, hg, _⟩ := h; exact hg
theorem Vot.cslen (h : Vot F w v P s) : s.cs.length ≤ 120 := by
  obtain ⟨F1, F2, M, h, _⟩ := h
  exact GV.len120 h.gv.1 (fun c hc => by obtain ⟨g1, g2, _⟩ := h.inv.votes c hc; exact ⟨g1, g2⟩)
theorem VotA.lenA (h : VotA A cap F w v P s) : s.cs.length ≤ 120 := h.vot.cslen
end
end Go.Al
namespace Go.Al
open Go Go.RowKit Go.Proofs
theorem votes1_iter (bv bw bt v gv gr cap : Nat) (pp : List (Option Addr)) (A : Option Addr) (s : VS) (a t : Int) (hn : s.cs.length ≤ 1000000) : Iter2 Tryz.prog 161 #[pt bv, pt bw, pt bt] (vrow s a t).length (GV.enc2 (vrow s a t)) (fun W => GV.GrAt W gv A cap s.cs ∧ VtOk bv bw bt v gv gr pp a t s A cap W) (VtOk bv bw bt v gv gr pp a t s A cap) := by
 intro l J Jx w hPre hJ hJx hY hOk h0
 obtain ⟨hgA, hok0⟩ := hPre
 have hbv := hok0.hv
 have hbw := hok0.hw
 have hbt := hok0.ht
 have hvb := hok0.blk
 have hlen := hok0.len
 have hbwlt := hbw.lt
 have hbtlt := hbt.lt
 have hvlt := hvb.lt
 have hbvlt := hbv.lt
 show Calls Tryz.prog 161 #[.func (.yield l) #[] #[], pt bv, pt bw, pt bt] w _
 have hK0 := Keep.refl none_ w
 refine enterM Tryz.func161 rfl [.func (.yield l) #[] #[], pt bv, pt bw, pt bt] 32 rfl rfl rfl ?_
 refine Vp [(0, .func (.yield l) #[] #[]),(1, pt bv),(2, pt bw),(3, pt bt)] <| Vr <| Bx 246 [.func (.yield l) #[] #[]] ?_
 intro b1 w1 e1 hb1 k1 z1
 have hsz2 := Keep.size k1
 replace hbv := hbv.k0 k1
 replace hK0 := hK0.tn k1
 have hb1lt := hb1.lt
 refine Oe <| V_seq <| Vr <| Lr 0 (pt v) hbv <| Oen [1, 2, 3, 4, 8] <| Vf <| Vsk <| V_seq <| V_draws (acts [5]) none_ [[0, 1, 2, 3, 4, 5]] (by kernel_rfl) (by repeat first | exact (by first | exact sure_postM | exact sure_rQ2 | exact sure_no | exact sure_body (by rintro _ _ ⟨h, _⟩; exact ⟨_, h⟩)) | refine sure_then ?_ | refine sure_block ?_ | refine sure_join ?_) (by kernel_rfl) ?_
 intro w4 hk3 he5 L hL6
 have hsz7 := Keep.size hk3
 replace hbv := hbv.k0 hk3
 replace hbw := hbw.k0 (k1.tr hk3)
 replace hbt := hbt.k0 (k1.tr hk3)
 replace hvb := hvb.k0 (k1.tr hk3)
 replace hK0 := hK0.tn hk3
 have qhbv := hbv
 have qhbw := hbw
 have qhbt := hbt
 have qhvb := hvb
 have K8 : Keep none_ w4 w4 := Keep.refl _ _
 obtain rfl := List.mem_singleton.1 hL6
 refine Mr 0 (pt v) qhbv <| Gn [3, 4, 5] [1, 2, 3, 4, 11] <| Mc0 12 (pt gv) qhvb (by rw [List.getElem?_append_right (by rw [List.length_map]; omega), List.length_map, hlen]; rfl) ?_
 refine Mr 0 (nt a) qhbw <| GI_final 5 (by kernel_rfl) (by kernel_rfl) <| Ok (kl 162 #[(.tmp 12),(.tmp 13)] #[119, 3]) 162 #[pt gv, nt a] (some 14) (GV.row_spec _ rfl a _) ?_
 rintro _ w9 ⟨bg2, bs2, bn2, rfl, hbg2, hbs2, hbn2, hk10, hgbg2, hgbs2, hgbn2⟩
 refine ⟨_, rfl, ?_⟩
 have hsz11 := Keep.size hk10
 replace hbv := hbv.k0 hk10
 replace hbt := hbt.k0 hk10
 replace hvb := hvb.k0 hk10
 replace hb1 := hb1.k0 (hk3.tr hk10)
 replace hK0 := hK0.tn hk10
 have hbg2lt := hbg2.lt
 have hbs2lt := hbs2.lt
 have hbn2lt := hbn2.lt
 refine Oe <| V_block ?_
 have hb4ge : w.heap.size ≤ b1 := by omega
 refine Vp [(1, pt bv),(3, pt bt),(4, pt b1),(14, .func (.func 206) #[] #[pt bg2, pt bs2, pt bn2])] ?_
 have hN0 : w.heap.size ≤ w9.heap.size := Keep.size hK0
 refine V_range2 (gf := 206) (caps := #[pt bg2, pt bs2, pt bn2]) (m := (GV.rowL a s.cs).length) (by kernel_rfl) (by kernel_rfl) (by kernel_rfl) (GV.along1_iter0 bg2 bs2 bn2 gv cap A s.cs a hn) (⟨hbg2, hgA.keep0 hK0, ⟨hbs2, hbn2, hok0.sl.keep0 hK0⟩⟩) (fun W W' h k => ⟨h.1.quiet k, h.2.1.quiet k, h.2.2.quiet k⟩) (GV.enc2_size _) (fun M1 k W => (Blk W b1 [.func (.yield l) #[] #[]] 246) ∧ (Blk W bs2 [nt 0] 3) ∧ (Blk W bn2 [nt a] 3) ∧ (J M1 (vtake s a t k).length W)) (fun M1 c k W => (c = .ret ∧ ∃ q : Nat, (Jx M1 q W) ∧ (q ≤ (vrow s a t).length))) (fun M1 k W W' h hk => by obtain ⟨jb1, jbs2, jbn2, jj⟩ := h; exact ⟨jb1.quiet hk, jbs2.quiet hk, jbn2.quiet hk, (((hJ _ _).mono (by omega)) _ _ jj hk)⟩) (fun M1 c k W W' h hk => by obtain ⟨hc, q, xx, hq⟩ := h; exact ⟨hc, q, (((hJx _ _).mono (by omega)) _ _ xx hk), hq⟩) (fun M1 hM1 => ⟨hb1, hbs2, hbn2, hJ _ _ _ _ (h0 _ (by omega)) (Keep.ofNone hK0)⟩) (fun M1 k W h => by obtain ⟨jb1, jbs2, jbn2, jj⟩ := h; exact ⟨jbs2, jbn2, (hOk _ _ _ jj).sl⟩) ?_ ?_ ?_
 ·
  intro lp D M1 k W hD hl hM hMW hkm ⟨jb1, jbs2, jbn2, jj⟩ ⟨rr, hrr⟩ hDD
  have hb1lt := jb1.lt
  have hbs2lt := jbs2.lt
  have hbn2lt := jbn2.lt
  obtain ⟨x, hx⟩ : ∃ x, (GV.rowL a s.cs)[k]? = some x := ⟨_, List.getElem?_eq_getElem (by omega)⟩
  rw [GV.enc2_at hx]
  have hok := hOk _ _ _ jj
  obtain ⟨c0, hc0, hca, hcb, hcv⟩ := rowL_mem hx
  obtain ⟨i0, b0, q0, hi0, hi12, hpp0, hb0, htr0⟩ := hok.polls c0 hc0
  have hx1 : x.1 = (i0 : Int) := by rw [← hcb]; exact hi0
  rw [hcb] at htr0
  have hbv := hok.hv
  have hbt := hok.ht
  have hvb := hok.blk
  have hbvlt := hbv.lt
  have hbtlt := hbt.lt
  have hvblt := hvb.lt
  have hb0lt := hb0.lt
  have hvlt := hvblt
  refine Vp [(1, pt bv),(3, pt bt),(4, pt b1),(15, nt x.1),(16, .agg (Vt.cells x.2).toArray)] ?_
  have hfen : Keep (fen w9.heap.size M1) W W := Keep.refl _ _
  have hzhfen := Keep.size hfen
  have hkj : Keep none_ W W := Keep.refl _ _
  have hzhkj := Keep.size hkj
  refine Vs [(1, pt bv),(3, pt bt),(4, pt b1),(5, nt x.1),(16, .agg (Vt.cells x.2).toArray)] <| V_region <| OI_alloc 67 (.agg #[nt 0, .bool false, nt 0, nt 0, nt 0, nt 0]) [nt 0, .bool false, nt 0, nt 0, nt 0, nt 0] (some 6) (by kernel_rfl) (by kernel_rfl) (by kernel_rfl) ?_
  intro b12 w12 e12 hb12 k12 z12
  have hsz13 := Keep.size k12
  replace jb1 := jb1.k0 k12
  replace jbs2 := jbs2.k0 k12
  replace jbn2 := jbn2.k0 k12
  replace hbv := hbv.k0 k12
  replace hbt := hbt.k0 k12
  replace hvb := hvb.k0 k12
  replace hb0 := hb0.k0 k12
  replace hfen := hfen.tn k12
  replace hkj := hkj.tn k12
  have hb12lt := hb12.lt
  refine Sg 0 (Vt.cells x.2) hb12 (Vt.len _) (Vt.one _) ?_
  intro w14 hb12_17 hk15 hz16
  replace hb12_17 : Blk w14 b12 (Vt.cells x.2) 67 := (by rwa [over_whole (by rw [Vt.len]; rfl)] at hb12_17)
  have hsz18 := Keep.size hk15
  replace jb1 := jb1.k1 hk15
  replace jbs2 := jbs2.k1 hk15
  replace jbn2 := jbn2.k1 hk15
  replace hbv := hbv.k1 hk15
  replace hbt := hbt.k1 hk15
  replace hvb := hvb.k1 hk15
  replace hb0 := hb0.k1 hk15
  replace hfen := Keep.fresh hfen hk15 (by intro i hi hs; have hs2 : i = b12 := hs; show _ ∨ _; omega)
  replace hkj := Keep.fr hkj hk15
  refine OI_end rfl <| X_begin2 hfen ?_
  intro W2 hk2 ⟨r2, hr2⟩ hD2
  have hsz19 := Keep.size hk2
  replace jb1 := Blk.quiet jb1 hk2
  replace jbs2 := Blk.quiet jbs2 hk2
  replace jbn2 := Blk.quiet jbn2 hk2
  replace hbv := Blk.quiet hbv hk2
  replace hbt := Blk.quiet hbt hk2
  replace hvb := Blk.quiet hvb hk2
  replace hb0 := Blk.quiet hb0 hk2
  replace hb12_17 := Blk.quiet hb12_17 hk2
  replace jj := hJ _ _ _ _ jj (Keep.ofNone hkj); replace jj := (hJ _ _).mono (by omega : w.heap.size ≤ w9.heap.size) _ _ jj hk2; replace hkj := Keep.refl none_ W2
  have hzhk2 := Keep.size hk2
  have hfenb : Keep (fen w9.heap.size M1) W2 W2 := Keep.refl _ _
  have hzhfenb := Keep.size hfenb
  have hzhkj := Keep.size hkj
  refine V_block <| V_seq <| V_draws (acts [2, 12]) none_ [[0, 1, 2, 3, 4, 5, 6, 7, 8, 9, 10, 11, 12, 13, 14]] (by kernel_rfl) (by repeat first | exact (by first | exact sure_postM | exact sure_rQ2 | exact sure_no | exact sure_body (by rintro _ _ ⟨h, _⟩; exact ⟨_, h⟩)) | refine sure_then ?_ | refine sure_block ?_ | refine sure_join ?_) (by kernel_rfl) ?_
  intro w21 hk20 he22 L hL23
  have hsz24 := Keep.size hk20
  replace jb1 := jb1.k0 hk20
  replace hbv := hbv.k0 hk20
  replace hbt := hbt.k0 hk20
  replace hvb := hvb.k0 hk20
  replace hb0 := hb0.k0 hk20
  replace hb12_17 := hb12_17.k0 hk20
  replace hkj := hkj.tn hk20
  replace hfenb := hfenb.tn hk20
  have qjb1 := jb1
  have qhbv := hbv
  have qhbt := hbt
  have qhb0 := hb0
  have qhb12_17 := hb12_17
  have K25 : Keep none_ w21 w21 := Keep.refl _ _
  obtain rfl := List.mem_singleton.1 hL23
  refine Mr 0 (pt v) qhbv <| Gn [2, 3, 4, 5, 6, 7, 8, 9, 10, 11, 12, 13, 14] [3, 4, 5, 6, 17, 18] <| Gk (kl 64 #[(.tmp 17),(.tmp 18)] #[33, 3]) 64 #[pt v, nt x.1] (some 19) ((by rw [hx1]; exact pollfn_at v gv gr i0 pp (some ⟨b0, 0, none⟩) _ hvb hok.len hi12 hpp0)) ?_
  rintro _ w26 ⟨rfl, hk27⟩
  have K28 := K25.tr (Keep.ofNone hk27)
  refine ⟨_, rfl, K28, ?_⟩
  have hzK28 := Keep.size K28
  have hsz29 := Keep.size hk27
  replace jb1 := jb1.k0 hk27
  replace jbs2 := jbs2.k0 (hk20.tr hk27)
  replace jbn2 := jbn2.k0 (hk20.tr hk27)
  replace hkj := hkj.tn hk27
  replace hfenb := hfenb.tn hk27
  refine Gn [5, 6, 7, 8, 9, 10, 11, 12, 13, 14] [3, 4, 5, 6, 21] <| Mr 0 (nt q0.track) qhb0 <| Mr 0 (nt t) qhbt <| Gn [9, 10, 11, 12, 13, 14] [4, 5, 6, 25] ?_
  by_cases hg30 : q0.track = t
  ·
   refine Et 25 hg30 <| Mr 0 (.func (.yield l) #[] #[]) qjb1 <| Gs [11, 12, 13, 14] [(6, pt b12),(25, .bool true),(26, .func (.yield l) #[] #[]),(27, nt x.1)] <| Ga 67 (.tmp 6) 0 (Vt.cells x.2) (some 28) 6 qhb12_17 id (take_all (Vt.len _)) (Vt.len _) ?_
   obtain ⟨hat, hlt⟩ := vtake_at hx (htr0.symm.trans hg30)
   refine GI_yield0 { callee := (Callee.value (Operand.tmp 26)), args := #[(Operand.tmp 27),(Operand.tmp 28)], argTypes := #[3, 67] } l #[nt x.1, .agg (Vt.cells x.2).toArray] (some 29) (by kernel_rfl) (by kernel_rfl) (by kernel_rfl) (by kernel_rfl) (by have hy := hY M1 _ _ (by omega) (by omega) hlt (hJ _ _ _ _ jj (Keep.ofNone hkj)); rw [GV.enc2_at hat] at hy; exact hy) ?_
   rintro _ w31 ⟨hk33, (⟨rfl, hj32⟩ | ⟨rfl, hj32⟩)⟩
   ·
    refine ⟨_, rfl, ?_⟩
    have hsz34 := Keep.size hk33
    replace jb1 := jb1.keep hk33 (by show ¬ (_ ∨ _); omega)
    replace jbs2 := jbs2.keep hk33 (by show ¬ (_ ∨ _); omega)
    replace jbn2 := jbn2.keep hk33 (by show ¬ (_ ∨ _); omega)
    replace hfenb := Keep.fresh hfenb hk33 (by intro i hi hs; rcases hs with hs | hs; exact .inl (by omega); exact .inr hs)
    refine Gs [] [(31, .bool false)] <| GI_end <| X_then <| Vf <| V_skip <| X_block ?_
    exact fun a _ => ⟨hfenb, jb1, jbs2, jbn2, by rw [vtake_step hx, if_pos (htr0.symm.trans hg30)]; simpa using hj32⟩
   ·
    refine ⟨_, rfl, ?_⟩
    have hsz35 := Keep.size hk33
    replace hfenb := Keep.fresh hfenb hk33 (by intro i hi hs; rcases hs with hs | hs; exact .inl (by omega); exact .inr hs)
    refine Gs [] [(31, .bool true)] <| GI_end <| X_then <| Vo <| V_ret <| X_ret_block ?_
    exact fun a _ => ⟨hfenb, ⟨rfl, _, hj32, by omega⟩⟩
  refine Ef 25 hg30 <| Gs [] [(31, .bool false)] <| GI_end <| X_then <| Vf <| V_skip <| X_block ?_
  exact fun a _ => ⟨hfenb, jb1, jbs2, jbn2, hJ _ _ _ _ (by rw [vtake_step hx, if_neg (fun h9 => hg30 (htr0.trans h9))]; exact jj) (Keep.ofNone hkj)⟩
 ·
  intro D M1 W hD hM ⟨jb1, jbs2, jbn2, jj⟩ hDD
  have hb1lt := jb1.lt
  have hbs2lt := jbs2.lt
  have hbn2lt := jbn2.lt
  refine X_block ?_
  rw [vtake_all] at jj
  exact leave1 (.tuple #[]) (.inr rfl) hDD (fun w' hk => ⟨res_tmps rfl, ⟨_, rfl⟩, M1, by omega, .inl (((hJ _ _).mono (by omega)) _ _ jj hk)⟩)
 ·
  intro D M1 k c W hD hM hkm h hDD
  obtain ⟨hc, q, xx, hq⟩ := h
  subst hc
  refine V_ret <| X_ret_block ?_
  exact leave1 (.tuple #[]) (.inl rfl) hDD (fun w' hk => ⟨res_tmps rfl, ⟨_, rfl⟩, M1, by omega, .inr ⟨q, hq, ((hJx _ _).mono (by omega)) _ _ xx hk⟩⟩)
end Go.Al
namespace Go.Al
open Go Go.RowKit Go.Proofs
theorem votesfn_spec (v : Value) (hv : v.cells = [v].toArray) (a t : Int) (w : World) : Calls Tryz.prog 111 #[v, nt a, nt t] w fun e w' => ∃ bv bw bt, e = .returned (.func (.func 161) #[] #[pt bv, pt bw, pt bt]) ∧ Blk w' bv [v] 33 ∧ Blk w' bw [nt a] 3 ∧ Blk w' bt [nt t] 3 ∧ Keep none_ w w' ∧ w.heap.size ≤ bv ∧ w.heap.size ≤ bw ∧ w.heap.size ≤ bt := by
 have hK0 := Keep.refl none_ w
 refine eV ?_
 refine Vr <| OI_box 33 (.tmp 0) v [v] (some 3) (by kernel_rfl) (by kernel_rfl) hv ?_
 intro b1 w1 e1 hb1 k1 z1
 have hsz2 := Keep.size k1
 replace hK0 := hK0.tn k1
 have hb1lt := hb1.lt
 refine Bx 3 [nt a] ?_
 intro b3 w3 e3 hb3 k3 z3
 have hsz4 := Keep.size k3
 replace hK0 := hK0.tn k3
 have hb3lt := hb3.lt
 refine Bx 3 [nt t] ?_
 intro b5 w5 e5 hb5 k5 z5
 have hsz6 := Keep.size k5
 replace hb1 := hb1.k0 (k3.tr k5)
 replace hb3 := hb3.k0 k5
 replace hK0 := hK0.tn k5
 have hb5lt := hb5.lt
 refine On 4 [3, 4, 5] <| Oer <| Ose [(6, .func (.func 161) #[] #[pt b1, pt b3, pt b5])] <| V_ret ?_
 exact X_return _ rfl ⟨_, _, _, rfl, hb1, hb3, hb5, hK0, by omega, by omega, by omega⟩
theorem count_spec (F : Nat → Prop) (v : Nat) (P : VP) (s : VS) (a t : Int) (w : World) (h : Vot F w v P s) : Calls Tryz.prog 68 #[pt v, nt a, nt t] w fun e w' => e = .returned (nt (((vrow s a t).length : Nat) : Int)) ∧ Keep none_ w w' := by
 have hFlt := Vot.lt h
 have hvlt := hFlt _ (Vot.at_ h)
 have hFo : ∀ q, F q → 0 ≤ q := fun q _ => Nat.zero_le q
 have hFr : ∀ q, F q → F q ∨ w.heap.size ≤ q := fun _ h => .inl h
 have hK0 := Keep.refl none_ w
 refine enterM Tryz.func68 rfl [pt v, nt a, nt t] 17 rfl rfl rfl ?_
 refine Vp [(0, pt v),(1, nt a),(2, nt t)] <| Vr <| On 1 [0, 1, 2, 6] <| Oer <| Alc_ 3 (nt 0) [nt 0] ?_
 intro b1 w1 e1 hb1 k1 z1
 have hsz2 := Keep.size k1
 replace h := h.keep k1 nk
 replace hK0 := hK0.tn k1
 have hb1lt := hb1.lt
 refine St_ 0 (nt 0) hb1 ?_
 intro w3 hb1_6 hk4 hz5
 replace hb1_6 : Blk w3 b1 [nt 0] 3 := hb1_6
 have hsz7 := Keep.size hk4
 replace h := h.keep hk4 (fun q hq hs => by have hs : q = b1 := hs; have g0 := hFo q hq; have g1 := hFlt q hq; omega)
 replace hK0 := Keep.fr hK0 hk4
 refine Oe <| V_seq <| Vr <| On 3 [6, 7, 8, 9, 10] <| Ok (kl 111 #[(.tmp 8),(.tmp 9),(.tmp 10)] #[33, 3, 3]) 111 #[pt v, nt a, nt t] (some 11) (votesfn_spec _ rfl a t _) ?_
 rintro _ w8 ⟨bv10, bw11, bt12, rfl, hbv10, hbw11, hbt12, hk9, hgebv10, hgebw11, hgebt12⟩
 refine ⟨_, rfl, ?_⟩
 have hsz13 := Keep.size hk9
 replace hb1_6 := hb1_6.k0 hk9
 replace h := h.keep hk9 nk
 replace hK0 := hK0.tn hk9
 have hbv10lt := hbv10.lt
 have hbw11lt := hbw11.lt
 have hbt12lt := hbt12.lt
 refine Oe <| V_block ?_
 obtain ⟨A14, cap14, hva14⟩ := Vot.arr h
 have hal14 := VotA.lenA hva14
 have hvl9 := vrow_len s a t
 refine Vp [(7, pt b1),(11, .func (.func 161) #[] #[pt bv10, pt bw11, pt bt12])] ?_
 have hN0 : w.heap.size ≤ w8.heap.size := Keep.size hK0
 refine V_range2 (gf := 161) (caps := #[pt bv10, pt bw11, pt bt12]) (m := (vrow s a t).length) (by kernel_rfl) (by kernel_rfl) (by kernel_rfl) (votes1_iter bv10 bw11 bt12 v P.gv P.gr cap14 P.pp A14 s a t (by omega)) (⟨VotA.grat hva14, VotA.ok hva14 rfl (fun _ => rfl) hbv10 hbw11 hbt12⟩) (fun W W' h k => ⟨h.1.quiet k, h.2.quiet k⟩) (GV.enc2_size _) (fun M1 k W => (Blk W bv10 [pt v] 33) ∧ (Blk W bw11 [nt a] 3) ∧ (Blk W bt12 [nt t] 3) ∧ (VotA A14 cap14 F W v P s) ∧ (Keep none_ w W) ∧ (Blk W b1 [nt (k : Int)] 3)) (fun M1 c k W => False) (fun M1 k W W' h hk => by obtain ⟨jbv10, jbw11, jbt12, jhva14, jhK0, jb1⟩ := h; exact ⟨jbv10.quiet hk, jbw11.quiet hk, jbt12.quiet hk, VotA.quiet jhva14 hk, jhK0.quiet hk (by omega), jb1.quiet hk⟩) (fun _ _ _ _ _ h _ => h.elim) (fun M1 hM1 => ⟨hbv10, hbw11, hbt12, hva14, hK0, hb1_6⟩) (fun M1 k W h => by obtain ⟨jbv10, jbw11, jbt12, jhva14, jhK0, jb1⟩ := h; exact (VotA.ok jhva14 rfl (fun _ => rfl) jbv10 jbw11 jbt12)) ?_ ?_ (fun _ _ _ _ _ _ _ _ h _ => h.elim)
 ·
  intro lp D M1 k W hD hl hM hMW hkm ⟨jbv10, jbw11, jbt12, jhva14, jhK0, jb1⟩ ⟨rr, hrr⟩ hDD
  have hzjhK0 := Keep.size jhK0
  have hb1lt := jb1.lt
  have hbv10lt := jbv10.lt
  have hbw11lt := jbw11.lt
  have hbt12lt := jbt12.lt
  obtain ⟨x, hx⟩ : ∃ x, (vrow s a t)[k]? = some x := ⟨_, List.getElem?_eq_getElem (by omega)⟩
  rw [GV.enc2_at hx]
  refine Vp [(7, pt b1)] ?_
  have hfen : Keep (fen w8.heap.size M1) W W := Keep.refl _ _
  have hzhfen := Keep.size hfen
  refine V_skip <| X_begin2 hfen ?_
  intro W2 hk2 ⟨r2, hr2⟩ hD2
  have hsz15 := Keep.size hk2
  replace jb1 := Blk.quiet jb1 hk2
  replace jbv10 := Blk.quiet jbv10 hk2
  replace jbw11 := Blk.quiet jbw11 hk2
  replace jbt12 := Blk.quiet jbt12 hk2
  replace jhva14 := VotA.quiet jhva14 hk2
  replace jhK0 := Keep.quiet jhK0 hk2 (by omega)
  have hzhk2 := Keep.size hk2
  have hfenb : Keep (fen w8.heap.size M1) W2 W2 := Keep.refl _ _
  have hzhfenb := Keep.size hfenb
  refine V_block <| V_region <| Lr 0 (nt (k : Int)) jb1 ?_
  have hw16 : i64.wrap ((k : Int) + 1) = ((k + 1 : Nat) : Int) := wrp
  refine Os 2 [(7, pt b1),(15, nt (i64.wrap ((k : Int) + 1)))] <| Oq (u := nt (i64.wrap ((k : Int) + 1))) (v := nt ((k + 1 : Nat) : Int)) 15 (by rw [hw16]) <| St_ 0 (nt ((k + 1 : Nat) : Int)) jb1 ?_
  intro w17 hb1_20 hk18 hz19
  replace hb1_20 : Blk w17 b1 [nt ((k + 1 : Nat) : Int)] 3 := hb1_20
  have hsz21 := Keep.size hk18
  replace jbv10 := jbv10.k1 hk18
  replace jbw11 := jbw11.k1 hk18
  replace jbt12 := jbt12.k1 hk18
  replace jhva14 := VotA.keep jhva14 hk18 (fun q hq hs => by have hs : q = b1 := hs; have g0 := hFo q hq; have g1 := hFlt q hq; omega)
  replace jhK0 := Keep.fr jhK0 hk18
  replace hfenb := Keep.fresh hfenb hk18 (by intro i hi hs; have hs2 : i = b1 := hs; show _ ∨ _; omega)
  refine OI_end rfl <| X_block ?_
  exact fun a _ => ⟨hfenb, jbv10, jbw11, jbt12, jhva14, jhK0, hb1_20⟩
 ·
  intro D M1 W hD hM ⟨jbv10, jbw11, jbt12, jhva14, jhK0, jb1⟩ hDD
  have hzjhK0 := Keep.size jhK0
  have hb1lt := jb1.lt
  have hbv10lt := jbv10.lt
  have hbw11lt := jbw11.lt
  have hbt12lt := jbt12.lt
  refine X_block <| X_then <| Vr <| Lr 0 (nt (((vrow s a t).length : Nat) : Int)) jb1 <| Ose [(6, nt (((vrow s a t).length : Nat) : Int))] <| V_ret ?_
  exact leave1 (nt (((vrow s a t).length : Nat) : Int)) (.inl rfl) hDD (fun w' hk => ⟨res_tmps rfl, ⟨rfl, Keep.quiet jhK0 hk (by omega)⟩⟩)
theorem GV.setC_mem2 {a b : Int} {v : Vt} {y : GV.Ci} : ∀ {cs : List GV.Ci}, y ∈ GV.setC a b v cs → y = ⟨a, b, v⟩ ∨ y ∈ cs
  | [], h => by simp only [GV.setC, List.mem_singleton] at h; exact .inl h
  | x :: l, h => by
    simp only [GV.setC] at h
    split at h
    · rcases List.mem_cons.1 h with h | h
      · exact .inl h
      · exact .inr (List.mem_cons_of_mem _ h)
    · split at h
      · rcases List.mem_cons.1 h with h | h
        · exact .inr (by rw [h]; exact List.mem_cons_self ..)
        · exact (GV.setC_mem2 h).imp id (List.mem_cons_of_mem _)
      · rcases List.mem_cons.1 h with h | h
        · exact .inl h
        · exact .inr h
theorem vget_spec (F : Nat → Prop) (v : Nat) (P : VP) (s : VS) (a b : Int) (w : World) (h : Vot F w v P s) : Calls Tryz.prog 66 #[.pointer (some ⟨P.gv, 0, none⟩), nt a, nt b] w fun e w' => e = .returned (.tuple #[.agg (Vt.cells ((GV.getC a b s.cs).getD Vt.zero)).toArray, .bool (GV.getC a b s.cs).isSome]) ∧ Keep none_ w w' := by
  obtain ⟨F1, F2, M, hX, _⟩ := h
  exact GV.get_spec F1 P.gv s.cs a b w hX.gv.gr
theorem vset_spec (F : Nat → Prop) (v : Nat) (P : VP) (s : VS) (a b : Int) (x : Vt) (w : World) (h : Vot F w v P s) (ha : 0 ≤ a ∧ a < 10) (hb : 0 ≤ b ∧ b < 12) (hok : okV x) (hp : ∃ q, s.ps[b.toNat]? = some (some q)) : Calls Tryz.prog 72 #[.pointer (some ⟨P.gv, 0, none⟩), nt a, nt b, .agg (Vt.cells x).toArray] w fun e w' => e = .returned (.tuple #[]) ∧ (∃ F', Vot F' w' v P { s with cs := GV.setC a b x s.cs } ∧ (∀ q, F' q → F q ∨ w.heap.size ≤ q)) ∧ Keep F w w' := by
  have hl := h.cslen
  obtain ⟨F1, F2, M, hX, h1, h2, h3, h4⟩ := h
  refine (GV.set_grd F1 P.gv s.cs a b x w hX.gv (by omega)).mono ?_
  rintro e w' ⟨rfl, ⟨F1', hG, hfr⟩, hk⟩
  refine ⟨rfl, Vot.setCs hX h1 h2 h3 h4 hk hG hfr ⟨hX.inv.len, fun c hc => ?_, hX.inv.dels⟩, hk.mono (fun q _ hq => h1 q hq)⟩
  rcases GV.setC_mem2 hc with rfl | hc
  · exact ⟨ha, hb, hok, hp⟩
  · exact hX.inv.votes c hc
def hasAt (t n : Int) (l : List (Int × Int)) : Bool := l.any fun x => decide (x.1 = t) && decide (n ≤ x.2)
def raiseC (cs : List Ci) (a t n : Int) : List Ci := if hasAt t n (rowL a cs) = true then cs else lockC cs a t n
theorem hasAt_yes {t n : Int} {l : List (Int × Int)} {k : Nat} {x : Int × Int} (hx : l[k]? = some x) (h1 : x.1 = t) (h2 : n ≤ x.2) : hasAt t n l = true := by
  unfold hasAt
  exact List.any_eq_true.2 ⟨x, List.mem_of_getElem? hx, by simp [h1, h2]⟩
theorem hasAt_step {t n : Int} {l : List (Int × Int)} {k : Nat} {x : Int × Int} (hx : l[k]? = some x) (h0 : hasAt t n (l.take k) = false) (h : ¬ (x.1 = t ∧ n ≤ x.2)) : hasAt t n (l.take (k + 1)) = false := by
  obtain ⟨h1, rfl⟩ := List.getElem?_eq_some_iff.1 hx
  unfold hasAt at *
  rw [List.take_succ_eq_append_getElem h1, List.any_append, h0]
  simpa using h
theorem raise_spec (F : Nat → Prop) (l : Nat) (xs : List Acc) (cs : List Ci) (a t n : Int) (w : World) (h : Led F w l xs cs) (hmax : cs.length < 100000) : Calls Tryz.prog 73 #[pt l, nt a, nt t, nt n] w fun e w' => e = .returned (.tuple #[]) ∧ (∃ F', Led F' w' l xs (raiseC cs a t n) ∧ (∀ q, F' q → F q ∨ w.heap.size ≤ q)) ∧ Keep F w w' := by
 have hFlt := Led.lt h
 have hllt := hFlt _ (Led.at_ h)
 have hinv := Led.inv h
 have hFr : ∀ q, F q → F q ∨ w.heap.size ≤ q := fun _ h => .inl h
 have hcopy := h
 obtain ⟨_, _, _, g, A, cap, D, hat, hG, hAF, hDF, _⟩ := hcopy
 have hl9 := hat.blk
 obtain ⟨_, _, _, _, A2, cap2, hat2, hAD2⟩ := hG
 have owA2 : ∀ q, inA A2 q → q < w.heap.size := fun q hq => hFlt q (hDF q (hAD2 q hq)).1
 have hgb := hat2.blk
 have hA2 := hat2.sl
 have hglt := hgb.lt
 have hK0 := Keep.refl F w
 refine enterM Tryz.func73 rfl [pt l, nt a, nt t, nt n] 28 rfl rfl rfl ?_
 refine Vp [(0, pt l),(1, nt a),(2, nt t),(3, nt n)] <| Vr <| Bx 3 [nt t] ?_
 intro b1 w1 e1 hb1 k1 z1
 have hsz2 := Keep.size k1
 replace h := h.keep k1 nk
 replace hK0 := hK0.tn k1
 have hb1lt := hb1.lt
 refine Bx 3 [nt n] ?_
 intro b3 w3 e3 hb3 k3 z3
 have hsz4 := Keep.size k3
 replace hl9 := hl9.k0 (k1.tr k3)
 replace h := h.keep k3 nk
 replace hK0 := hK0.tn k3
 have hb3lt := hb3.lt
 refine Oe <| V_seq <| Vr <| On 2 [0, 1, 6, 7, 10, 11] <| Ok (kl 115 #[(.tmp 10),(.tmp 11)] #[32, 3]) 115 #[pt l, nt a] (some 12) (locks_spec l g _ a _ hl9) ?_
 rintro _ w5 ⟨bg7, bs8, bn9, rfl, hbg7, hbs8, hbn9, hk6, hgebg7, hgebs8, hgebn9⟩
 refine ⟨_, rfl, ?_⟩
 have hsz10 := Keep.size hk6
 replace hgb := hgb.k0 ((k1.tr k3).tr hk6)
 replace hb1 := hb1.k0 (k3.tr hk6)
 replace hb3 := hb3.k0 hk6
 replace hA2 := hA2.keep0 ((k1.tr k3).tr hk6)
 replace h := h.keep hk6 nk
 replace hK0 := hK0.tn hk6
 have hbg7lt := hbg7.lt
 have hbs8lt := hbs8.lt
 have hbn9lt := hbn9.lt
 refine Oe <| V_block ?_
 have hat3 := (⟨hgb, hA2, hat2.off⟩ : GrAt _ g A2 cap2 cs)
 refine Vp [(0, pt l),(1, nt a),(6, pt b1),(7, pt b3),(12, .func (.func 209) #[] #[pt bg7, pt bs8, pt bn9])] ?_
 have hN0 : w.heap.size ≤ w5.heap.size := Keep.size hK0
 refine V_range2 (gf := 209) (caps := #[pt bg7, pt bs8, pt bn9]) (m := (rowL a cs).length) (by kernel_rfl) (by kernel_rfl) (by kernel_rfl) (along1_iter0 bg7 bs8 bn9 g cap2 A2 cs a (by omega)) (⟨hbg7, hat3, ⟨hbs8, hbn9, hA2⟩⟩) (fun W W' h k => ⟨h.1.quiet k, h.2.1.quiet k, h.2.2.quiet k⟩) (enc2_size _) (fun M1 k W => (Blk W b1 [nt t] 3) ∧ (Blk W b3 [nt n] 3) ∧ (Blk W bs8 [nt 0] 3) ∧ (Blk W bn9 [nt a] 3) ∧ (SlT W 3 Ci.cells A2 cap2 cs) ∧ (Led F W l xs cs) ∧ (Keep F w W) ∧ (hasAt t n ((rowL a cs).take k) = false)) (fun M1 c k W => (c = .ret ∧ (Blk W b1 [nt t] 3) ∧ (Blk W b3 [nt n] 3) ∧ (Blk W bs8 [nt 0] 3) ∧ (Blk W bn9 [nt a] 3) ∧ (SlT W 3 Ci.cells A2 cap2 cs) ∧ (Led F W l xs cs) ∧ (Keep F w W) ∧ (hasAt t n (rowL a cs) = true))) (fun M1 k W W' h hk => by obtain ⟨jb1, jb3, jbs8, jbn9, jA2, jh, jhK0, hno⟩ := h; exact ⟨jb1.quiet hk, jb3.quiet hk, jbs8.quiet hk, jbn9.quiet hk, jA2.quiet hk, Led.quiet jh hk, jhK0.quiet hk (by omega), hno⟩) (fun M1 c k W W' h hk => by obtain ⟨hc, jb1, jb3, jbs8, jbn9, jA2, jh, jhK0, hyes⟩ := h; exact ⟨hc, jb1.quiet hk, jb3.quiet hk, jbs8.quiet hk, jbn9.quiet hk, jA2.quiet hk, Led.quiet jh hk, jhK0.quiet hk (by omega), hyes⟩) (fun M1 hM1 => ⟨hb1, hb3, hbs8, hbn9, hA2, h, hK0, rfl⟩) (fun M1 k W h => by obtain ⟨jb1, jb3, jbs8, jbn9, jA2, jh, jhK0, hno⟩ := h; exact ⟨jbs8, jbn9, jA2⟩) ?_ ?_ ?_
 ·
  intro lp D M1 k W hD hl hM hMW hkm ⟨jb1, jb3, jbs8, jbn9, jA2, jh, jhK0, hno⟩ ⟨rr, hrr⟩ hDD
  have hzjhK0 := Keep.size jhK0
  have hb1lt := jb1.lt
  have hb3lt := jb3.lt
  have hbs8lt := jbs8.lt
  have hbn9lt := jbn9.lt
  have ltjA2 := SlT.lt jA2
  obtain ⟨x, hx⟩ : ∃ x, (rowL a cs)[k]? = some x := ⟨_, List.getElem?_eq_getElem hkm⟩
  rw [enc2_at hx]
  refine Vp [(6, pt b1),(7, pt b3),(13, nt x.1),(14, nt x.2)] ?_
  have hfen : Keep (fen w5.heap.size M1) W W := Keep.refl _ _
  have hzhfen := Keep.size hfen
  refine Vr <| On 1 [6, 7, 8, 14] <| Oe <| V_region <| Os 1 [(6, pt b1),(7, pt b3),(8, nt x.1),(9, nt x.2)] <| OI_end rfl <| X_begin2 hfen ?_
  intro W2 hk2 ⟨r2, hr2⟩ hD2
  have hsz11 := Keep.size hk2
  replace jb1 := Blk.quiet jb1 hk2
  replace jb3 := Blk.quiet jb3 hk2
  replace jbs8 := Blk.quiet jbs8 hk2
  replace jbn9 := Blk.quiet jbn9 hk2
  replace jA2 := jA2.quiet hk2
  replace jh := jh.quiet hk2
  replace jhK0 := Keep.quiet jhK0 hk2 (by omega)
  have hzhk2 := Keep.size hk2
  have hfenb : Keep (fen w5.heap.size M1) W2 W2 := Keep.refl _ _
  have hzhfenb := Keep.size hfenb
  refine V_block <| Vr <| On 1 [6, 7, 9, 15] <| Lr 0 (nt t) jb1 <| On 4 [7, 9, 18] ?_
  by_cases hg12 : x.1 = t
  ·
   refine Dt 18 hg12 <| On 5 [7, 18, 19] <| Lr 0 (nt n) jb3 <| Ose [(22, .bool (decide (x.2 ≥ n)))] <| Vi (x.2 ≥ n) (fun hc13 => ?_) (fun hc13 => ?_)
   ·
    refine V_ret <| X_ret_block ?_
    exact fun a _ => ⟨hfenb, ⟨rfl, jb1, jb3, jbs8, jbn9, jA2, jh, jhK0, hasAt_yes hx hg12 hc13⟩⟩
   refine V_skip <| X_block ?_
   exact fun a _ => ⟨hfenb, jb1, jb3, jbs8, jbn9, jA2, jh, jhK0, hasAt_step hx hno (by rintro ⟨h8, h9⟩; exact hc13 h9)⟩
  refine Df 18 hg12 <| Ose [(22, .bool false)] <| Vf <| V_skip <| X_block ?_
  exact fun a _ => ⟨hfenb, jb1, jb3, jbs8, jbn9, jA2, jh, jhK0, hasAt_step hx hno (by rintro ⟨h8, h9⟩; exact hg12 h8)⟩
 ·
  intro D M1 W hD hM ⟨jb1, jb3, jbs8, jbn9, jA2, jh, jhK0, hno⟩ hDD
  have hzjhK0 := Keep.size jhK0
  have hb1lt := jb1.lt
  have hb3lt := jb3.lt
  have hbs8lt := jbs8.lt
  have hbn9lt := jbn9.lt
  have ltjA2 := SlT.lt jA2
  refine X_block <| X_then <| V_region <| Os 2 [(6, pt b1),(7, pt b3),(23, pt l),(24, nt a)] <| Oc 3 (.tmp 6) 0 (nt t) (some 25) jb1 rfl <| Oc 3 (.tmp 7) 0 (nt n) (some 26) jb3 rfl <| Ok (kl 116 #[(.tmp 23),(.tmp 24),(.tmp 25),(.tmp 26)] #[32, 3, 3, 3]) 116 #[pt l, nt a, nt t, nt n] (some 27) (lock_spec F l xs cs a t n _ jh hmax) ?_
  rintro _ w14 ⟨rfl, ⟨F16, ho17, hfr18⟩, hk15⟩
  refine ⟨_, rfl, ?_⟩
  have hsz19 := Keep.size hk15
  replace jhK0 := frr jhK0 hk15 hFr
  replace hDD := (Keep.block hk15 _ (Array.getElem?_eq_some_iff.1 hDD).1 (fun hs => by have h2 := hFlt _ hs; omega)).trans hDD
  have lt20 := Led.lt ho17
  have rel21 : ∀ q, F16 q → F q ∨ w.heap.size ≤ q := fun q hq => by rcases hfr18 q hq with h | h; exact hFr q h; exact .inr (by omega)
  refine OI_end rfl ?_
  rw [List.take_length] at hno
  exact leave1 (.tuple #[]) (.inr rfl) hDD (fun w' hk => ⟨res_tmps rfl, ⟨rfl, ⟨F16, by rw [show raiseC cs a t n = lockC cs a t n from by unfold raiseC; rw [if_neg (by rw [hno]; decide)]]; exact Led.quiet ho17 hk, rel21⟩, Keep.quiet jhK0 hk (by omega)⟩⟩)
 ·
  intro D M1 k c W hD hM hkm h hDD
  obtain ⟨hc, jb1, jb3, jbs8, jbn9, jA2, jh, jhK0, hyes⟩ := h
  subst hc
  have hzjhK0 := Keep.size jhK0
  have hb1lt := jb1.lt
  have hb3lt := jb3.lt
  have hbs8lt := jbs8.lt
  have hbn9lt := jbn9.lt
  have ltjA2 := SlT.lt jA2
  refine V_ret <| X_ret_block <| X_ret_then ?_
  exact leave1 (.tuple #[]) (.inl rfl) hDD (fun w' hk => ⟨res_tmps rfl, ⟨rfl, ⟨F, by rw [show raiseC cs a t n = cs from by unfold raiseC; rw [if_pos hyes]]; exact Led.quiet jh hk, hFr⟩, Keep.quiet jhK0 hk (by omega)⟩⟩)
end Go.Al
namespace Go.Al
open Go Go.RowKit Go.Proofs
theorem VS.setP_setP (s : VS) (i : Nat) (a b : PollS) : (s.setP i a).setP i b = s.setP i b := by unfold VS.setP; simp
end Go.Al
