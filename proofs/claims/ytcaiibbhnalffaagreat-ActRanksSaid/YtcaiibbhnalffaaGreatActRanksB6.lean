/-
  Put together out of 4 texts: The laws of act that play in both: the pair, a beginning. The law ActRanks: what is computed. Walks of the laws of act: a remark is told, too much is refused. Walks of the laws of act: ranks.
-/
import Derived.Test.YtcaiibbhnalffaaGreatActRanksB5
namespace Go.Al
open Go Go.RowKit Go.Proofs
def sbQ (fs : List Int) : Nat → RW
  | 0 => acQ fs
  | i + 1 => rwSub actTs (sbQ fs i) (1 + (i : Int)) (Int.tmod (i : Int) 3) 0 z0 0
def nRef (refs : Int) : Nat := min refs.toNat 5
structure PrX (B H F G X Y Z : Nat → Prop) (w : World) (b r g v l x y z : Nat) (ts : List Trk) (q : RW) : Prop where
  blk : Blk w b [pt l, pt v, pt r, pt x, pt y, pt z] 38
  hr : Rfr H w r g ts q.rs
  hv : VotT F w v q.s
  hl : Led G w l q.xs q.cs
  hx : DLd X w x q.xs q.cs
  hy : DVt Y w y q.s
  hz : DRf Z w z ts q.rs
  inH : ∀ q, H q → B q ∧ q ≠ b
  inF : ∀ q, F q → B q ∧ q ≠ b
  inG : ∀ q, G q → B q ∧ q ≠ b
  inX : ∀ q, X q → B q ∧ q ≠ b
  inY : ∀ q, Y q → B q ∧ q ≠ b
  inZ : ∀ q, Z q → B q ∧ q ≠ b
  dHF : ∀ q, H q → ¬ F q
  dHG : ∀ q, H q → ¬ G q
  dHX : ∀ q, H q → ¬ X q
  dHY : ∀ q, H q → ¬ Y q
  dHZ : ∀ q, H q → ¬ Z q
  dFG : ∀ q, F q → ¬ G q
  dFX : ∀ q, F q → ¬ X q
  dFY : ∀ q, F q → ¬ Y q
  dFZ : ∀ q, F q → ¬ Z q
  dGX : ∀ q, G q → ¬ X q
  dGY : ∀ q, G q → ¬ Y q
  dGZ : ∀ q, G q → ¬ Z q
  dXY : ∀ q, X q → ¬ Y q
  dXZ : ∀ q, X q → ¬ Z q
  dYZ : ∀ q, Y q → ¬ Z q
def Pr (B : Nat → Prop) (w : World) (b : Nat) (ts : List Trk) (q : RW) : Prop := (∀ q, B q → q < w.heap.size) ∧ B b ∧ ∃ H F G X Y Z r g v l x y z, PrX B H F G X Y Z w b r g v l x y z ts q
section
variable {B S : Nat → Prop} {w w' : World} {b N : Nat} {ts : List Trk} {q : RW}
theorem Pr.lt (h : Pr B w b ts q) : ∀ q, B q → q < w.heap.size := h.1
theorem Pr.at_ (h : Pr B w b ts q) : B b := h.2.1
theorem Pr.keep (h : Pr B w b ts q) (k : Keep S w w') (hS : ∀ q, B q → ¬ S q) : Pr B w' b ts q := by
  obtain ⟨h1, h2, H, F, G, X, Y, Z, r, g, v, l, x, y, z, h⟩ := h
  exact ⟨fun q hq => Nat.lt_of_lt_of_le (h1 q hq) k.size, h2, H, F, G, X, Y, Z, r, g, v, l, x, y, z, { h with blk := h.blk.keep k (hS _ h2), hr := h.hr.keep k (fun q hq => hS q (h.inH q hq).1), hv := h.hv.keep k (fun q hq => hS q (h.inF q hq).1), hl := h.hl.keep k (fun q hq => hS q (h.inG q hq).1), hx := h.hx.keep k (fun q hq => hS q (h.inX q hq).1), hy := h.hy.keep k (fun q hq => hS q (h.inY q hq).1), hz := h.hz.keep k (fun q hq => hS q (h.inZ q hq).1) }⟩
theorem Pr.quiet (h : Pr B w b ts q) (k : Keep (lb N w) w w') : Pr B w' b ts q := by
  obtain ⟨h1, h2, H, F, G, X, Y, Z, r, g, v, l, x, y, z, h⟩ := h
  exact ⟨fun q hq => Nat.lt_of_lt_of_le (h1 q hq) k.size, h2, H, F, G, X, Y, Z, r, g, v, l, x, y, z, { h with blk := h.blk.quiet k, hr := h.hr.quiet k, hv := h.hv.quiet k, hl := h.hl.quiet k, hx := h.hx.quiet k, hy := h.hy.quiet k, hz := h.hz.quiet k }⟩
end
theorem PrX.pack {B H F G X Y Z : Nat → Prop} {w : World} {b r g v l x y z N : Nat} {ts : List Trk} {q : RW} (hb : Blk w b [pt l, pt v, pt r, pt x, pt y, pt z] 38) (hr : Rfr H w r g ts q.rs) (hv : VotT F w v q.s) (hl : Led G w l q.xs q.cs) (hx : DLd X w x q.xs q.cs) (hy : DVt Y w y q.s) (hz : DRf Z w z ts q.rs)
    (dHF : ∀ q, H q → ¬ F q) (dHG : ∀ q, H q → ¬ G q) (dHX : ∀ q, H q → ¬ X q) (dHY : ∀ q, H q → ¬ Y q) (dHZ : ∀ q, H q → ¬ Z q) (dFG : ∀ q, F q → ¬ G q) (dFX : ∀ q, F q → ¬ X q) (dFY : ∀ q, F q → ¬ Y q) (dFZ : ∀ q, F q → ¬ Z q) (dGX : ∀ q, G q → ¬ X q) (dGY : ∀ q, G q → ¬ Y q) (dGZ : ∀ q, G q → ¬ Z q) (dXY : ∀ q, X q → ¬ Y q) (dXZ : ∀ q, X q → ¬ Z q) (dYZ : ∀ q, Y q → ¬ Z q) (oH : ∀ q, H q → q ≠ b) (oF : ∀ q, F q → q ≠ b) (oG : ∀ q, G q → q ≠ b) (oX : ∀ q, X q → q ≠ b) (oY : ∀ q, Y q → q ≠ b) (oZ : ∀ q, Z q → q ≠ b) (hB : B b) (rH : ∀ q, H q → B q ∨ N ≤ q) (rF : ∀ q, F q → B q ∨ N ≤ q) (rG : ∀ q, G q → B q ∨ N ≤ q) (rX : ∀ q, X q → B q ∨ N ≤ q) (rY : ∀ q, Y q → B q ∨ N ≤ q) (rZ : ∀ q, Z q → B q ∨ N ≤ q) :
    ∃ B', Pr B' w b ts q ∧ ∀ q, B' q → B q ∨ N ≤ q := by
  refine ⟨fun q => q = b ∨ H q ∨ F q ∨ G q ∨ X q ∨ Y q ∨ Z q, ⟨?_, .inl rfl, H, F, G, X, Y, Z, r, g, v, l, x, y, z, hb, hr, hv, hl, hx, hy, hz, fun q h => ⟨.inr (.inl h), oH q h⟩, fun q h => ⟨.inr (.inr (.inl h)), oF q h⟩, fun q h => ⟨.inr (.inr (.inr (.inl h))), oG q h⟩, fun q h => ⟨.inr (.inr (.inr (.inr (.inl h)))), oX q h⟩, fun q h => ⟨.inr (.inr (.inr (.inr (.inr (.inl h))))), oY q h⟩, fun q h => ⟨.inr (.inr (.inr (.inr (.inr (.inr h))))), oZ q h⟩, dHF, dHG, dHX, dHY, dHZ, dFG, dFX, dFY, dFZ, dGX, dGY, dGZ, dXY, dXZ, dYZ⟩, ?_⟩
  · rintro q (rfl | h | h | h | h | h | h)
    · exact hb.lt
    · exact hr.lt q h
    · exact hv.lt q h
    · exact hl.lt q h
    · exact hx.lt q h
    · exact hy.lt q h
    · exact hz.lt q h
  · rintro q (rfl | h | h | h | h | h | h)
    · exact .inl hB
    · exact rH q h
    · exact rF q h
    · exact rG q h
    · exact rX q h
    · exact rY q h
    · exact rZ q h
theorem new6_yes (A : Option Addr) (cap : Nat) (fs : List Int) (w : World) (hA : ArgT w 1 intc A cap fs) (hn : fs.length ≤ 100000) (hok : okP fs) : Calls Tryz.prog 18 #[.slice A fs.length cap] w fun e w' => ∃ x F, e = .returned (.tuple #[pt x, nt 0]) ∧ DLd F w' x (newX fs 10) [] ∧ Keep none_ w w' ∧ (∀ q, F q → w.heap.size ≤ q) :=
  (new6_spec A cap fs w hA (by omega)).mono (by
    rintro e w' (⟨_, h⟩ | ⟨h, _⟩)
    · exact h
    · exact absurd hok h)
set_option maxRecDepth 10000 in
set_option maxHeartbeats 2000000 in
theorem begin_ac (A : Option Addr) (cap : Nat) (fs : List Int) (refs : Int) (w : World) (hA0 : ArgT w 1 intc A cap fs) (hn : fs.length ≤ 100000) : Calls Tryz.prog 9 #[.slice A fs.length cap, nt refs] w fun e w' => ∃ b B, e = .returned (pt b) ∧ Pr B w' b actTs (sbQ fs (nRef refs)) ∧ Keep none_ w w' ∧ (∀ q, B q → w.heap.size ≤ q) := by
 have hA := hA0
 have hK0 : Keep none_ w w := Keep.refl _ _
 have hzhK0 := Keep.size hK0
 refine enterV Tryz.func9 rfl [.slice A fs.length cap, nt refs] 132 rfl rfl rfl ?_
 refine Vr ?_
 refine On 1 [0, 1] ?_
 refine Oer ?_
 refine On 1 [0, 1, 5] ?_
 refine Oe ?_
 refine V_seq ?_
 refine Vs [(0, .slice A fs.length cap), (1, nt refs), (5, .slice none 0 0), (6, nt 0)] ?_
 refine V_block ?_
 refine V_pick [(0, .slice A fs.length cap), (1, nt refs), (5, .slice none 0 0), (6, nt 0)] rfl ?_
 refine V_loop (fun k wI e => ∃ i : Nat, ∃ A2 : Option Addr, ∃ cap2 : Nat, ∃ ms : List Int, (k + i = 10) ∧ (i ≤ 10) ∧ (ms = frL fs i) ∧ (SlT wI 1 intc A2 cap2 ms) ∧ (∀ q, inA A2 q → w.heap.size ≤ q) ∧ Keep none_ w wI ∧ e = [(0, .slice A fs.length cap), (1, nt refs), (5, .slice A2 ms.length cap2), (6, nt (i : Int))]) 10 ⟨0, none, 0, [], by omega, by omega, rfl, SlT.nil _ _ _, fun q h => (inA_none h).elim, Keep.refl _ _, rfl⟩ ?_
 rintro k2 w1 _ ⟨i, A2, cap2, ms, hki, hi10, hms, hA2, ow2, hk3, rfl⟩
 have hsz4 := Keep.size hk3
 replace hA := ArgT.keep0 hA hk3
 replace hK0 := hK0.tn hk3
 have hzhk3 := Keep.size hk3
 have lt2 := SlT.lt hA2
 have hml : ms.length = i := by rw [hms, frL_len]
 refine V_seq ?_
 refine Vs [(0, .slice A fs.length cap), (1, nt refs), (5, .slice A2 ms.length cap2), (6, nt (i : Int)), (18, .bool (decide ((i : Int) < 10)))] ?_
 refine V_if ((i : Int) < 10) (by kernel_rfl) (fun hc5 => ?_) (fun hc5 => ?_)
 ·
  refine V_skip ?_
  refine X_then ?_
  refine V_seq ?_
  refine V_block ?_
  refine Vr ?_
  refine Os 1 [(0, .slice A fs.length cap), (1, nt refs), (6, nt (i : Int)), (21, .slice A2 ms.length cap2)] ?_
  refine OI_slit (E := 3) (zv := nt 0) (sz := 1) (by_ := 8) 49 1 #[(0, (Operand.const (Value.int IntKind.i64 100)))] [nt 100] [nt 100] (some 22) (by kernel_rfl) (by kernel_rfl) (by kernel_rfl) (by omega) rfl (by omega) (by intro v hv; simp only [List.mem_cons, List.not_mem_nil, or_false] at hv; rcases hv with rfl <;> rfl) (by kernel_rfl) rfl ?_
  intro b6 w6 e6 hb6 k6 z6
  have hsz7 := Keep.size k6
  replace hA := ArgT.keep0 hA k6
  replace hA2 := hA2.keep0 k6
  replace hK0 := hK0.tn k6
  replace hk3 := hk3.tn k6
  have hb6lt := hb6.lt
  refine OI_append (t := 49) (at2 := 49) (E := 3) (E2 := 3) (sz := 1) (by_ := 8) (zv := nt 0) (m := ms.length) (k := 1) (.tmp 21) (.tmp 22) (.slice A2 ms.length cap2) (sl_ b6 0 1 1) (some 23) (by kernel_rfl) (by kernel_rfl) (by kernel_rfl) (by kernel_rfl) (by kernel_rfl) (by kernel_rfl) (by kernel_rfl) (SlT.slr hA2) (slr_one hb6 (intc_len 100)) (intc_one 100) (by first | omega | (simp only [List.length_nil]; omega)) (by omega) (by first | omega | (simp only [List.length_nil]; omega)) (by omega) ?_
  intro vv9 w8 hap
  obtain ⟨A8, cap8, rfl, hA8, hk8, own8x⟩ := app_one (f := intc) (xs := ms) (x := 100) (A := A2) (cap := cap2) hap (fun x _ => intc_len x) (intc_len _)
  have own8 : ∀ q, inA A8 q → w.heap.size ≤ q := fun q hq => by rcases own8x q hq with h | h; exact ow2 q h; (show w.heap.size ≤ q; omega)
  have hsz9 := Keep.size hk8
  replace hA := ArgT.keep hA hk8 hA0 (fun k hk hs => by have h1 := ow2 k hs; have h2 := lt2 k hs; omega)
  replace hK0 := Keep.fresh hK0 hk8 (by intro i hi hs; first | exact hs | (exfalso; have h1 := ow2 i hs; have h2 := lt2 i hs; omega) | (have h1 := ow2 i hs; have h2 := lt2 i hs; show _ ∨ _; omega))
  replace hk3 := Keep.fresh hk3 hk8 (by intro i hi hs; first | exact hs | (exfalso; have h1 := ow2 i hs; have h2 := lt2 i hs; omega) | (have h1 := ow2 i hs; have h2 := lt2 i hs; show _ ∨ _; omega))
  have lt8 := SlT.lt hA8
  refine On 4 [0, 1, 5, 6] ?_
  refine Oer ?_
  refine Ose [(0, .slice A fs.length cap), (1, nt refs), (5, .slice A8 ((ms ++ [100]).length) cap8), (6, nt (i : Int)), (27, .bool (decide ((i : Int) < (fs.length : Int))))] ?_
  refine V_if ((i : Int) < (fs.length : Int)) (by kernel_rfl) (fun hc10 => ?_) (fun hc10 => ?_)
  ·
   have hapl : (ms ++ [100]).length = i + 1 := by rw [List.length_append, hml]; rfl
   refine V_region ?_
   refine On 4 [0, 1, 5, 6, 28, 29, 30, 31] ?_
   obtain ⟨b11, o11, L11, rfl, hat11⟩ := ArgT.open_ hA (by first | omega | (simp only [List.length_map]; omega) | (simp; done) | (simp; omega))
   have hb11lt0 := ArgT.lt hA0 (by first | omega | (simp only [List.length_map]; omega) | (simp; done) | (simp; omega))
   have hb11lt := hat11.blk.lt
   refine Oi (b := b11) (o := o11) (len := fs.length) (cap := cap) (j := i) (some 32) 49 (.tmp 30) (.tmp 31) 3 1 8 .i64 ?_
   obtain ⟨x12, hx13⟩ := exAt (xs := fs) (i := i)
   refine OI_cellR 3 (.tmp 32) (o11 + i * 1) (nt x12) (some 33) (by kernel_rfl) (by kernel_rfl) hat11.blk (m := 1) (by kernel_rfl) (AtR.cell0 hat11 (es_at hx13) rfl) ?_
   refine Os 8 [(0, sl_ b11 o11 fs.length cap), (1, nt refs), (5, .slice A8 ((ms ++ [100]).length) cap8), (6, nt (i : Int)), (28, .slice A8 ((ms ++ [100]).length) cap8), (29, nt (i : Int)), (35, nt (IntKind.i64.wrap (100 + (bAnd x12 1023))))] ?_
   obtain ⟨b14, o14, L14, T14, rfl, hat14⟩ := SlT.opn hA8
   have hb14lt := hat14.blk.lt
   have hob15 := own8 b14 ⟨_, rfl, rfl⟩
   have hob16 := lt8 b14 ⟨_, rfl, rfl⟩
   refine Oi (b := b14) (o := o14) (len := (ms ++ [100]).length) (cap := cap8) (j := i) (some 36) 49 (.tmp 28) (.tmp 29) 3 1 8 .i64 ?_
   obtain ⟨x17, hx18⟩ := exAt (xs := ms ++ [100]) (i := i)
   refine Ts1 (IntKind.i64.wrap (100 + (bAnd x12 1023)) : Int) 0 (nt (IntKind.i64.wrap (100 + (bAnd x12 1023)))) hat14 hx18 (by simp [intc, over]) ?_
   intro w19 hat23 hk21 hz22 hlhx24 hx24
   have hsz25 := Keep.size hk21
   replace hat11 := hat11.keep hk21 (by show ¬ (_ = _); omega)
   replace hK0 := Keep.fr hK0 hk21
   replace hk3 := Keep.fr hk3 hk21
   refine Op_ [(0, sl_ b11 o11 fs.length cap), (1, nt refs), (5, sl_ b14 o14 ((ms ++ [100]).length) cap8), (6, nt (i : Int))] ?_
   refine Oq (u := sl_ b14 o14 ((ms ++ [100]).length) cap8) (v := sl_ b14 o14 (((ms ++ [100]).set i (IntKind.i64.wrap (100 + (bAnd x12 1023)))).length) cap8) 5 (by rw [List.length_set]) ?_
   refine OI_end rfl ?_
   refine X_block ?_
   refine X_then ?_
   refine V_region ?_
   have hw26 : IntKind.i64.wrap ((i : Int) + 1) = ((i + 1 : Nat) : Int) := wrp
   refine Os 2 [(0, sl_ b11 o11 fs.length cap), (1, nt refs), (5, sl_ b14 o14 (((ms ++ [100]).set i (IntKind.i64.wrap (100 + (bAnd x12 1023)))).length) cap8), (20, nt (IntKind.i64.wrap ((i : Int) + 1)))] ?_
   refine Oq (u := nt (IntKind.i64.wrap ((i : Int) + 1))) (v := nt ((i + 1 : Nat) : Int)) 20 (by rw [hw26]) ?_
   refine Os 3 [(0, sl_ b11 o11 fs.length cap), (1, nt refs), (5, sl_ b14 o14 (((ms ++ [100]).set i (IntKind.i64.wrap (100 + (bAnd x12 1023)))).length) cap8), (6, nt ((i + 1 : Nat) : Int))] ?_
   refine OI_end rfl ?_
   exact V_again (k2 - 1) (by omega) [(0, sl_ b11 o11 fs.length cap), (1, nt refs), (5, sl_ b14 o14 (((ms ++ [100]).set i (IntKind.i64.wrap (100 + (bAnd x12 1023)))).length) cap8), (6, nt ((i + 1 : Nat) : Int))] rfl ⟨i + 1, (some ⟨b14, o14, none⟩), cap8, (ms ++ [100]).set i (IntKind.i64.wrap (100 + (bAnd x12 1023))), by omega, by omega, by rw [frL_step, ← hms, frA_some hx13, ← hml]; simp, At.slt hat23, (fun q h => by have h3 := inA_some h; omega), hk3, rfl⟩
  have hapl : (ms ++ [100]).length = i + 1 := by rw [List.length_append, hml]; rfl
  refine V_skip ?_
  refine X_block ?_
  refine X_then ?_
  refine V_region ?_
  have hw27 : IntKind.i64.wrap ((i : Int) + 1) = ((i + 1 : Nat) : Int) := wrp
  refine Os 2 [(0, .slice A fs.length cap), (1, nt refs), (5, .slice A8 ((ms ++ [100]).length) cap8), (20, nt (IntKind.i64.wrap ((i : Int) + 1)))] ?_
  refine Oq (u := nt (IntKind.i64.wrap ((i : Int) + 1))) (v := nt ((i + 1 : Nat) : Int)) 20 (by rw [hw27]) ?_
  refine Os 3 [(0, .slice A fs.length cap), (1, nt refs), (5, .slice A8 ((ms ++ [100]).length) cap8), (6, nt ((i + 1 : Nat) : Int))] ?_
  refine OI_end rfl ?_
  exact V_again (k2 - 1) (by omega) [(0, .slice A fs.length cap), (1, nt refs), (5, .slice A8 ((ms ++ [100]).length) cap8), (6, nt ((i + 1 : Nat) : Int))] rfl ⟨i + 1, A8, cap8, ms ++ [100], by omega, by omega, by rw [frL_step, ← hms, frA_none (by omega)], hA8, own8, hk3, rfl⟩
 refine V_exit ?_
 refine X_exit_then ?_
 refine X_exit_then ?_
 refine X_exit_here ?_
 refine X_then ?_
 refine Vr ?_
 refine On 1 [1, 5, 38] ?_
 have hie : i = 10 := by omega
 replace hms : ms = frL fs 10 := by rw [hms, hie]
 refine Ok (kL 17 #[(.tmp 38)] #[49]) 17 #[.slice A2 ms.length cap2] (some 39) (new_okA A2 cap2 ms _ (SlT.arg hA2) (by omega) (by rw [hms]; exact frL_ok fs)) ?_
 rintro _ w30 ⟨l32, F33, rfl, ho34, hk31, hge35⟩
 refine ⟨_, rfl, ?_⟩
 have hsz36 := Keep.size hk31
 replace hA2 := hA2.keep0 hk31
 replace hK0 := hK0.tn hk31
 replace ho34 : Led F33 w30 l32 (frX fs) [] := by rw [hms] at ho34; exact ho34
 have own37 : ∀ q, F33 q → w1.heap.size ≤ q := fun q hq => by have h1 := hge35 q hq; omega
 have lt38 := Led.lt ho34
 have dis39 : ∀ q, F33 q → ¬ inA A2 q := fun q h1 h2 => by have h3 := hge35 q h1; have h4 := lt2 q h2; omega
 have hl32lt : l32 < w30.heap.size := Led.lt ho34 _ (Led.at_ ho34)
 have hl32ge := hge35 _ (Led.at_ ho34)
 refine On 7 [1, 5, 7, 8] ?_
 refine Oer ?_
 refine On 1 [1, 7, 8, 43] ?_
 refine Ok (kL 18 #[(.tmp 43)] #[49]) 18 #[.slice A2 ms.length cap2] (some 44) (new6_yes A2 cap2 ms _ (SlT.arg hA2) (by omega) (by rw [hms]; exact frL_ok fs)) ?_
 rintro _ w40 ⟨x42, F43, rfl, ho44, hk41, hge45⟩
 refine ⟨_, rfl, ?_⟩
 have hsz46 := Keep.size hk41
 replace hA2 := hA2.keep0 hk41
 replace hK0 := hK0.tn hk41
 replace ho34 := ho34.keep hk41 nk
 replace ho44 : DLd F43 w40 x42 (frX fs) [] := by rw [hms] at ho44; exact ho44
 have own47 : ∀ q, F43 q → w30.heap.size ≤ q := fun q hq => by have h1 := hge45 q hq; omega
 have lt48 := DLd.lt ho44
 have dis49 : ∀ q, F43 q → ¬ inA A2 q := fun q h1 h2 => by have h3 := hge45 q h1; have h4 := lt2 q h2; omega
 have dis50 : ∀ q, F43 q → ¬ F33 q := fun q h1 h2 => by have h3 := hge45 q h1; have h4 := lt38 q h2; omega
 have hx42lt : x42 < w40.heap.size := DLd.lt ho44 _ (DLd.at_ ho44)
 have hx42ge := hge45 _ (DLd.at_ ho44)
 refine On 7 [1, 7, 8, 9] ?_
 refine Oer ?_
 refine Ok (kL 20 #[] #[]) 20 #[] (some 48) (tracks_spec _) ?_
 rintro _ w53 ⟨A55, cap55, rfl, hA55, ow55, hk54⟩
 refine ⟨_, rfl, ?_⟩
 have hsz56 := Keep.size hk54
 replace hA2 := hA2.keep0 hk54
 replace hK0 := hK0.tn hk54
 replace ho34 := ho34.keep hk54 nk
 replace ho44 := DLd.keep ho44 hk54 nk
 have lt55 := SlT.lt hA55
 have dis57 : ∀ q, inA A55 q → ¬ F33 q := fun q h1 h2 => by have h3 := ow55 q h1; have h4 := lt38 q h2; omega
 have dis58 : ∀ q, inA A55 q → ¬ F43 q := fun q h1 h2 => by have h3 := ow55 q h1; have h4 := lt48 q h2; omega
 refine Ok (kL 19 #[(.tmp 48)] #[67]) 19 #[.slice A55 3 cap55] (some 49) (rnw_spec A55 cap55 actTs _ hA55 actTs_ok) ?_
 rintro _ w61 ⟨r63, gg67, H64, rfl, hR65, hk62, hge66⟩
 refine ⟨_, rfl, ?_⟩
 have hsz68 := Keep.size hk62
 replace hA2 := hA2.keep0 hk62
 replace hA55 := hA55.keep0 hk62
 replace hK0 := hK0.tn hk62
 replace ho34 := ho34.keep hk62 nk
 replace ho44 := DLd.keep ho44 hk62 nk
 have own69 : ∀ q, H64 q → w53.heap.size ≤ q := fun q hq => by have h1 := hge66 q hq; omega
 have lt70 := Rfr.lt hR65
 have dis71 : ∀ q, H64 q → ¬ inA A2 q := fun q h1 h2 => by have h3 := hge66 q h1; have h4 := lt2 q h2; omega
 have dis72 : ∀ q, H64 q → ¬ inA A55 q := fun q h1 h2 => by have h3 := hge66 q h1; have h4 := lt55 q h2; omega
 have dis73 : ∀ q, H64 q → ¬ F33 q := fun q h1 h2 => by have h3 := hge66 q h1; have h4 := lt38 q h2; omega
 have dis74 : ∀ q, H64 q → ¬ F43 q := fun q h1 h2 => by have h3 := hge66 q h1; have h4 := lt48 q h2; omega
 have hr63lt : r63 < w61.heap.size := Rfr.lt hR65 _ (Rfr.at_ hR65)
 have hr63ge := hge66 _ (Rfr.at_ hR65)
 refine On 7 [1, 7, 8, 9, 11, 12] ?_
 refine Oer ?_
 refine Ok (kL 20 #[] #[]) 20 #[] (some 53) (tracks_spec _) ?_
 rintro _ w77 ⟨A79, cap79, rfl, hA79, ow79, hk78⟩
 refine ⟨_, rfl, ?_⟩
 have hsz80 := Keep.size hk78
 replace hA2 := hA2.keep0 hk78
 replace hA55 := hA55.keep0 hk78
 replace hK0 := hK0.tn hk78
 replace ho34 := ho34.keep hk78 nk
 replace ho44 := DLd.keep ho44 hk78 nk
 replace hR65 := hR65.keep hk78 nk
 have lt79 := SlT.lt hA79
 have dis81 : ∀ q, inA A79 q → ¬ F33 q := fun q h1 h2 => by have h3 := ow79 q h1; have h4 := lt38 q h2; omega
 have dis82 : ∀ q, inA A79 q → ¬ F43 q := fun q h1 h2 => by have h3 := ow79 q h1; have h4 := lt48 q h2; omega
 have dis83 : ∀ q, inA A79 q → ¬ H64 q := fun q h1 h2 => by have h3 := ow79 q h1; have h4 := lt70 q h2; omega
 refine Ok (kL 21 #[(.tmp 53)] #[67]) 21 #[.slice A79 3 cap79] (some 54) (rnew12_spec A79 cap79 actTs _ hA79 actTs_ok) ?_
 rintro _ w84 ⟨x86, F87, rfl, ho88, hk85, hge89⟩
 refine ⟨_, rfl, ?_⟩
 have hsz90 := Keep.size hk85
 replace hA2 := hA2.keep0 hk85
 replace hA55 := hA55.keep0 hk85
 replace hA79 := hA79.keep0 hk85
 replace hK0 := hK0.tn hk85
 replace ho34 := ho34.keep hk85 nk
 replace ho44 := DLd.keep ho44 hk85 nk
 replace hR65 := hR65.keep hk85 nk
 have own91 : ∀ q, F87 q → w77.heap.size ≤ q := fun q hq => by have h1 := hge89 q hq; omega
 have lt92 := DRf.lt ho88
 have dis93 : ∀ q, F87 q → ¬ inA A2 q := fun q h1 h2 => by have h3 := hge89 q h1; have h4 := lt2 q h2; omega
 have dis94 : ∀ q, F87 q → ¬ inA A55 q := fun q h1 h2 => by have h3 := hge89 q h1; have h4 := lt55 q h2; omega
 have dis95 : ∀ q, F87 q → ¬ inA A79 q := fun q h1 h2 => by have h3 := hge89 q h1; have h4 := lt79 q h2; omega
 have dis96 : ∀ q, F87 q → ¬ F33 q := fun q h1 h2 => by have h3 := hge89 q h1; have h4 := lt38 q h2; omega
 have dis97 : ∀ q, F87 q → ¬ F43 q := fun q h1 h2 => by have h3 := hge89 q h1; have h4 := lt48 q h2; omega
 have dis98 : ∀ q, F87 q → ¬ H64 q := fun q h1 h2 => by have h3 := hge89 q h1; have h4 := lt70 q h2; omega
 have hx86lt : x86 < w84.heap.size := DRf.lt ho88 _ (DRf.at_ ho88)
 have hx86ge := hge89 _ (DRf.at_ ho88)
 refine On 7 [1, 7, 8, 9, 11, 12, 13] ?_
 refine Oer ?_
 refine On 1 [1, 7, 8, 9, 11, 12, 13, 57] ?_
 refine Ok (kL 22 #[] #[]) 22 #[] (some 58) (new_votT _) ?_
 rintro _ w103 ⟨g105, F106, rfl, ho107, hk104, hge108⟩
 refine ⟨_, rfl, ?_⟩
 have hsz109 := Keep.size hk104
 replace hA2 := hA2.keep0 hk104
 replace hA55 := hA55.keep0 hk104
 replace hA79 := hA79.keep0 hk104
 replace hK0 := hK0.tn hk104
 replace ho34 := ho34.keep hk104 nk
 replace ho44 := DLd.keep ho44 hk104 nk
 replace hR65 := hR65.keep hk104 nk
 replace ho88 := DRf.keep ho88 hk104 nk
 have own110 : ∀ q, F106 q → w84.heap.size ≤ q := fun q hq => by have h1 := hge108 q hq; omega
 have lt111 := VotT.lt ho107
 have dis112 : ∀ q, F106 q → ¬ inA A2 q := fun q h1 h2 => by have h3 := hge108 q h1; have h4 := lt2 q h2; omega
 have dis113 : ∀ q, F106 q → ¬ inA A55 q := fun q h1 h2 => by have h3 := hge108 q h1; have h4 := lt55 q h2; omega
 have dis114 : ∀ q, F106 q → ¬ inA A79 q := fun q h1 h2 => by have h3 := hge108 q h1; have h4 := lt79 q h2; omega
 have dis115 : ∀ q, F106 q → ¬ F33 q := fun q h1 h2 => by have h3 := hge108 q h1; have h4 := lt38 q h2; omega
 have dis116 : ∀ q, F106 q → ¬ F43 q := fun q h1 h2 => by have h3 := hge108 q h1; have h4 := lt48 q h2; omega
 have dis117 : ∀ q, F106 q → ¬ H64 q := fun q h1 h2 => by have h3 := hge108 q h1; have h4 := lt70 q h2; omega
 have dis118 : ∀ q, F106 q → ¬ F87 q := fun q h1 h2 => by have h3 := hge108 q h1; have h4 := lt92 q h2; omega
 have hg105lt : g105 < w103.heap.size := VotT.lt ho107 _ (VotT.at_ ho107)
 have hg105ge := hge108 _ (VotT.at_ ho107)
 refine On 4 [1, 7, 8, 11, 12, 13, 57, 58, 59, 60] ?_
 refine Ok (kL 23 #[] #[]) 23 #[] (some 61) (dnew_spec _) ?_
 rintro _ w121 ⟨g123, F124, rfl, ho125, hk122, hge126⟩
 refine ⟨_, rfl, ?_⟩
 have hsz127 := Keep.size hk122
 replace hA2 := hA2.keep0 hk122
 replace hA55 := hA55.keep0 hk122
 replace hA79 := hA79.keep0 hk122
 replace hK0 := hK0.tn hk122
 replace ho34 := ho34.keep hk122 nk
 replace ho44 := DLd.keep ho44 hk122 nk
 replace hR65 := hR65.keep hk122 nk
 replace ho88 := DRf.keep ho88 hk122 nk
 replace ho107 := ho107.keep hk122 nk
 have own128 : ∀ q, F124 q → w103.heap.size ≤ q := fun q hq => by have h1 := hge126 q hq; omega
 have lt129 := DVt.lt ho125
 have dis130 : ∀ q, F124 q → ¬ inA A2 q := fun q h1 h2 => by have h3 := hge126 q h1; have h4 := lt2 q h2; omega
 have dis131 : ∀ q, F124 q → ¬ inA A55 q := fun q h1 h2 => by have h3 := hge126 q h1; have h4 := lt55 q h2; omega
 have dis132 : ∀ q, F124 q → ¬ inA A79 q := fun q h1 h2 => by have h3 := hge126 q h1; have h4 := lt79 q h2; omega
 have dis133 : ∀ q, F124 q → ¬ F33 q := fun q h1 h2 => by have h3 := hge126 q h1; have h4 := lt38 q h2; omega
 have dis134 : ∀ q, F124 q → ¬ F43 q := fun q h1 h2 => by have h3 := hge126 q h1; have h4 := lt48 q h2; omega
 have dis135 : ∀ q, F124 q → ¬ H64 q := fun q h1 h2 => by have h3 := hge126 q h1; have h4 := lt70 q h2; omega
 have dis136 : ∀ q, F124 q → ¬ F87 q := fun q h1 h2 => by have h3 := hge126 q h1; have h4 := lt92 q h2; omega
 have dis137 : ∀ q, F124 q → ¬ F106 q := fun q h1 h2 => by have h3 := hge126 q h1; have h4 := lt111 q h2; omega
 have hg123lt : g123 < w121.heap.size := DVt.lt ho125 _ (DVt.at_ ho125)
 have hg123ge := hge126 _ (DVt.at_ ho125)
 refine On 7 [1, 7, 8, 11, 12, 63] ?_
 refine OI_box 38 (.tmp 63) (.agg #[pt l32, pt g105, pt r63, pt x42, pt g123, pt x86]) [pt l32, pt g105, pt r63, pt x42, pt g123, pt x86] (some 64) (by kernel_rfl) (by kernel_rfl) (by kernel_rfl) ?_
 intro b138 w138 e138 hb138 k138 z138
 have hsz139 := Keep.size k138
 replace hA2 := hA2.keep0 k138
 replace hA55 := hA55.keep0 k138
 replace hA79 := hA79.keep0 k138
 replace hK0 := hK0.tn k138
 replace ho34 := ho34.keep k138 nk
 replace ho44 := DLd.keep ho44 k138 nk
 replace hR65 := hR65.keep k138 nk
 replace ho88 := DRf.keep ho88 k138 nk
 replace ho107 := ho107.keep k138 nk
 replace ho125 := DVt.keep ho125 k138 nk
 have hb138lt := hb138.lt
 refine On 9 [1, 7, 8, 11, 12, 15] ?_
 refine Oe ?_
 refine V_seq ?_
 refine Vr ?_
 refine On 18 [1, 15, 79, 82] ?_
 refine Oc 32 (.tmp 82) 1 (pt g105) (some 83) hb138 rfl ?_
 refine Ose [(1, nt refs), (15, pt b138), (85, .bool false)] ?_
 refine V_false rfl ?_
 refine V_skip ?_
 refine X_then ?_
 refine V_seq ?_
 refine Vs [(1, nt refs), (15, pt b138), (16, nt 0)] ?_
 refine V_block ?_
 obtain ⟨B9, hp9, hB9⟩ := PrX.pack (B := fun q => w.heap.size ≤ q) (N := w.heap.size) (ts := actTs) (q := sbQ fs 0) hb138 hR65 ho107 ho34 ho44 ho125 ho88 (fun q h1 h2 => dis117 q h2 h1) dis73 dis74 (fun q h1 h2 => dis135 q h2 h1) (fun q h1 h2 => dis98 q h2 h1) dis115 dis116 (fun q h1 h2 => dis137 q h2 h1) dis118 (fun q h1 h2 => dis50 q h2 h1) (fun q h1 h2 => dis133 q h2 h1) (fun q h1 h2 => dis96 q h2 h1) (fun q h1 h2 => dis134 q h2 h1) (fun q h1 h2 => dis97 q h2 h1) dis136 (fun q h => by have h1 := own69 q h; have h2 := lt70 q h; omega) (fun q h => by have h1 := own110 q h; have h2 := lt111 q h; omega) (fun q h => by have h1 := own37 q h; have h2 := lt38 q h; omega) (fun q h => by have h1 := own47 q h; have h2 := lt48 q h; omega) (fun q h => by have h1 := own128 q h; have h2 := lt129 q h; omega) (fun q h => by have h1 := own91 q h; have h2 := lt92 q h; omega) (show w.heap.size ≤ b138 by omega) (fun q h => .inl (by have h1 := own69 q h; omega)) (fun q h => .inl (by have h1 := own110 q h; omega)) (fun q h => .inl (by have h1 := own37 q h; omega)) (fun q h => .inl (by have h1 := own47 q h; omega)) (fun q h => .inl (by have h1 := own128 q h; omega)) (fun q h => .inl (by have h1 := own91 q h; omega))
 have ow9 : ∀ q, B9 q → w.heap.size ≤ q := fun q hq => by rcases hB9 q hq with h | h; exact h; exact h
 have lt9 := Pr.lt hp9
 refine V_pick [(1, nt refs), (15, pt b138), (16, nt 0)] rfl ?_
 refine V_loop (fun k wI e => ∃ i : Nat, ∃ F140 : Nat → Prop, (k + i = nRef refs) ∧ (i ≤ 5) ∧ (Pr F140 wI b138 actTs (sbQ fs i)) ∧ (∀ q, F140 q → w.heap.size ≤ q) ∧ (∀ q, F140 q → B9 q ∨ w138.heap.size ≤ q) ∧ Keep B9 w138 wI ∧ e = [(1, nt refs), (15, pt b138), (16, nt (i : Int))]) (nRef refs) ⟨0, B9, by omega, by omega, hp9, (fun q hq => by have h1 := ow9 q hq; have h2 := lt9 q hq; omega), fun q h => .inl h, Keep.refl _ _, rfl⟩ ?_
 rintro k145 w144 _ ⟨i, F140, hki, hi5, ho141, own142, rel143, hk146, rfl⟩
 have hsz147 := Keep.size hk146
 replace hK0 := Keep.fresh hK0 hk146 (by intro i hi hs; have h1 := ow9 i hs; have h2 := lt9 i hs; omega)
 have hzhk146 := Keep.size hk146
 have lt148 := Pr.lt ho141
 have hb138lt : b138 < w144.heap.size := Pr.lt ho141 _ (Pr.at_ ho141)
 have hnr : nRef refs = min refs.toNat 5 := rfl
 obtain ⟨hBlt8, hBb8, H8, F8, G8, X8, Y8, Z8, r8, g8, v8, l8, x8, y8, z8, hpr8⟩ := ho141
 have hb8 := hpr8.blk
 have hb8lt := hb8.lt
 have hb8ow := own142 _ hBb8
 have hr8 := hpr8.hr
 have owH8 : ∀ q, H8 q → (w.heap.size ≤ q) ∧ q ≠ b138 := fun q hq => by have h1 := own142 q (hpr8.inH q hq).1; have h2 := (hpr8.inH q hq).2; omega
 have ltH8 := Rfr.lt hr8
 have hr8lt := ltH8 _ (Rfr.at_ hr8)
 have hr8ow := owH8 _ (Rfr.at_ hr8)
 have rlH80 : ∀ q, H8 q → B9 q ∨ w138.heap.size ≤ q := fun q hq => rel143 q (hpr8.inH q hq).1
 have rbH8 : ∀ q, H8 q → F140 q ∨ w144.heap.size ≤ q := fun q hq => .inl (hpr8.inH q hq).1
 have hv8 := hpr8.hv
 have owF8 : ∀ q, F8 q → (w.heap.size ≤ q) ∧ q ≠ b138 := fun q hq => by have h1 := own142 q (hpr8.inF q hq).1; have h2 := (hpr8.inF q hq).2; omega
 have ltF8 := VotT.lt hv8
 have hv8lt := ltF8 _ (VotT.at_ hv8)
 have hv8ow := owF8 _ (VotT.at_ hv8)
 have rlF80 : ∀ q, F8 q → B9 q ∨ w138.heap.size ≤ q := fun q hq => rel143 q (hpr8.inF q hq).1
 have rbF8 : ∀ q, F8 q → F140 q ∨ w144.heap.size ≤ q := fun q hq => .inl (hpr8.inF q hq).1
 have hl8 := hpr8.hl
 have owG8 : ∀ q, G8 q → (w.heap.size ≤ q) ∧ q ≠ b138 := fun q hq => by have h1 := own142 q (hpr8.inG q hq).1; have h2 := (hpr8.inG q hq).2; omega
 have ltG8 := Led.lt hl8
 have hl8lt := ltG8 _ (Led.at_ hl8)
 have hl8ow := owG8 _ (Led.at_ hl8)
 have rlG80 : ∀ q, G8 q → B9 q ∨ w138.heap.size ≤ q := fun q hq => rel143 q (hpr8.inG q hq).1
 have rbG8 : ∀ q, G8 q → F140 q ∨ w144.heap.size ≤ q := fun q hq => .inl (hpr8.inG q hq).1
 have hx8 := hpr8.hx
 have owX8 : ∀ q, X8 q → (w.heap.size ≤ q) ∧ q ≠ b138 := fun q hq => by have h1 := own142 q (hpr8.inX q hq).1; have h2 := (hpr8.inX q hq).2; omega
 have ltX8 := DLd.lt hx8
 have hx8lt := ltX8 _ (DLd.at_ hx8)
 have hx8ow := owX8 _ (DLd.at_ hx8)
 have rlX80 : ∀ q, X8 q → B9 q ∨ w138.heap.size ≤ q := fun q hq => rel143 q (hpr8.inX q hq).1
 have rbX8 : ∀ q, X8 q → F140 q ∨ w144.heap.size ≤ q := fun q hq => .inl (hpr8.inX q hq).1
 have hy8 := hpr8.hy
 have owY8 : ∀ q, Y8 q → (w.heap.size ≤ q) ∧ q ≠ b138 := fun q hq => by have h1 := own142 q (hpr8.inY q hq).1; have h2 := (hpr8.inY q hq).2; omega
 have ltY8 := DVt.lt hy8
 have hy8lt := ltY8 _ (DVt.at_ hy8)
 have hy8ow := owY8 _ (DVt.at_ hy8)
 have rlY80 : ∀ q, Y8 q → B9 q ∨ w138.heap.size ≤ q := fun q hq => rel143 q (hpr8.inY q hq).1
 have rbY8 : ∀ q, Y8 q → F140 q ∨ w144.heap.size ≤ q := fun q hq => .inl (hpr8.inY q hq).1
 have hz8 := hpr8.hz
 have owZ8 : ∀ q, Z8 q → (w.heap.size ≤ q) ∧ q ≠ b138 := fun q hq => by have h1 := own142 q (hpr8.inZ q hq).1; have h2 := (hpr8.inZ q hq).2; omega
 have ltZ8 := DRf.lt hz8
 have hz8lt := ltZ8 _ (DRf.at_ hz8)
 have hz8ow := owZ8 _ (DRf.at_ hz8)
 have rlZ80 : ∀ q, Z8 q → B9 q ∨ w138.heap.size ≤ q := fun q hq => rel143 q (hpr8.inZ q hq).1
 have rbZ8 : ∀ q, Z8 q → F140 q ∨ w144.heap.size ≤ q := fun q hq => .inl (hpr8.inZ q hq).1
 refine V_seq ?_
 refine Vr ?_
 refine Os 4 [(1, nt refs), (15, pt b138), (16, nt (i : Int)), (89, .bool (decide ((i : Int) < refs)))] ?_
 by_cases hg149 : (i : Int) < refs
 ·
  refine OI_eq [(1, nt refs), (15, pt b138), (16, nt (i : Int)), (89, .bool true)] (by first | simp [hg149] | rfl) ?_
  refine Ose [(1, nt refs), (15, pt b138), (16, nt (i : Int)), (90, nt (i : Int)), (91, .bool (decide ((i : Int) < 5))), (92, .bool (decide ((i : Int) < 5)))] ?_
  refine V_if ((i : Int) < 5) (by kernel_rfl) (fun hc150 => ?_) (fun hc150 => ?_)
  ·
   refine V_skip ?_
   refine X_then ?_
   refine V_seq ?_
   refine V_block ?_
   refine V_seq ?_
   refine V_draws (acts [17]) (fun q => q ≠ b138) [[0, 1, 2, 3, 4, 5, 6, 7, 8, 9, 10, 11, 12, 13, 14, 15, 16, 17]] (by kernel_rfl) (by repeat first | exact (by first | exact (by first | exact sure_body (by rintro _ _ ⟨_, _, h, _⟩; exact ⟨_, h⟩) | exact sure_body (by rintro _ _ ⟨_, _, h, _⟩; exact ⟨_, h⟩) | exact sure_body (by rintro _ _ ⟨h, _⟩; exact ⟨_, h⟩)) | exact sure_body (by rintro _ _ ⟨_, _, _, h, _⟩; exact ⟨_, h⟩)) | refine sure_then ?_ | refine sure_block ?_ | refine sure_join ?_) (by kernel_rfl) ?_
   intro w152 hk151 he153 L hL154
   have hsz155 := Keep.size hk151
   replace hb8 := hb8.k0 hk151
   replace hK0 := hK0.tn hk151
   replace hk146 := hk146.tn hk151
   replace hr8 := hr8.keep hk151 nk
   replace hv8 := hv8.keep hk151 nk
   replace hl8 := hl8.keep hk151 nk
   replace hx8 := DLd.keep hx8 hk151 nk
   replace hy8 := DVt.keep hy8 hk151 nk
   replace hz8 := DRf.keep hz8 hk151 nk
   have qhb8 := hb8
   have K156 : Keep (fun q => q ≠ b138) w152 w152 := Keep.refl _ _
   obtain rfl := List.mem_singleton.1 hL154
   refine Gn [3, 4, 5, 6, 7, 8, 9, 10, 11, 12, 13, 14, 15, 16, 17] [1, 15, 16, 90, 91, 97] ?_
   refine Gc 33 (.tmp 97) 2 (pt r8) (some 98) qhb8 (by show ¬ (b138 ≠ b138); omega) rfl ?_
   refine Gn [7, 8, 9, 10, 11, 12, 13, 14, 15, 16, 17] [1, 15, 16, 90, 91, 98, 101] ?_
   refine Gc 31 (.tmp 101) 0 (pt l8) (some 102) qhb8 (by show ¬ (b138 ≠ b138); omega) rfl ?_
   refine Gn [11, 12, 13, 14, 15, 16, 17] [1, 15, 16, 90, 91, 98, 102, 105] ?_
   refine Gc 32 (.tmp 105) 1 (pt v8) (some 106) qhb8 (by show ¬ (b138 ≠ b138); omega) rfl ?_
   have hw157 : IntKind.i64.wrap (1 + (i : Int)) = ((1 + i : Nat) : Int) := wrp
   refine Gs [14, 15, 16, 17] [(1, nt refs), (15, pt b138), (16, nt (i : Int)), (90, nt (i : Int)), (91, .bool (decide ((i : Int) < 5))), (98, pt r8), (102, pt l8), (106, pt v8), (108, nt (IntKind.i64.wrap (1 + (i : Int))))] ?_
   refine GI_eq [(1, nt refs), (15, pt b138), (16, nt (i : Int)), (90, nt (i : Int)), (91, .bool (decide ((i : Int) < 5))), (98, pt r8), (102, pt l8), (106, pt v8), (108, nt ((1 + i : Nat) : Int))] (by rw [hw157]) ?_
   refine Gs [17] [(1, nt refs), (15, pt b138), (16, nt (i : Int)), (90, nt (i : Int)), (91, .bool (decide ((i : Int) < 5))), (98, pt r8), (102, pt l8), (106, pt v8), (108, nt ((1 + i : Nat) : Int)), (110, nt (Int.tmod (i : Int) 3)), (111, .agg (hshc z0).toArray)] ?_
   refine GI_final 17 (by kernel_rfl) (by kernel_rfl) ?_
   refine Ok (kL 24 #[(.tmp 98), (.tmp 102), (.tmp 106), (.tmp 108), (.tmp 110), (.tmp 111), (.const (nt 0)), (.const (nt 0))] #[33, 31, 32, 3, 3, 40, 3, 3]) 24 #[pt r8, pt l8, pt v8, nt ((1 + i : Nat) : Int), nt (Int.tmod (i : Int) 3), .agg (hshc z0).toArray, nt 0, nt 0] (some 112) (submit_spec H8 r8 g8 actTs (sbQ fs i).rs F8 v8 (sbQ fs i).s G8 l8 (sbQ fs i).xs (sbQ fs i).cs ((1 + i : Nat) : Int) (Int.tmod (i : Int) 3) z0 0 0 _ hr8 hv8 hl8 hpr8.dHF hpr8.dHG hpr8.dFG) ?_
   rintro _ w160 ⟨rfl, ⟨F162, F165, F168, ho163, ho166, ho169, hfr164, hfr167, hfr170, hdis171, hdis172, hdis173⟩, hk161⟩
   refine ⟨_, rfl, ?_⟩
   have hsz174 := Keep.size hk161
   replace hb8 := hb8.keep hk161 (fun hs => by rcases hs with hs | hs | hs; (have u9 : _ = g8 := hs; have u0 := owH8 _ (Rfr.atg hr8); have u1 := ltH8 _ (Rfr.atg hr8); omega); (have u0 := owF8 _ hs; have u1 := ltF8 _ hs; omega); (have u0 := owG8 _ hs; have u1 := ltG8 _ hs; omega))
   replace hK0 := Keep.fresh hK0 hk161 (by intro i hi hs; first | exact hs | (rcases hs with hs | hs | hs; (have u9 : _ = g8 := hs; have u0 := owH8 _ (Rfr.atg hr8); have u1 := ltH8 _ (Rfr.atg hr8); omega); (have u0 := owF8 i hs; have u1 := ltF8 i hs; omega); (have u0 := owG8 i hs; have u1 := ltG8 i hs; omega)))
   replace hk146 := Keep.fresh hk146 hk161 (fun i hi hs => by rcases hs with hs | hs | hs; (replace hs : H8 i := (by rw [show i = g8 from hs]; exact (Rfr.atg hr8)); rcases rlH80 i hs with h | h; exact h; (exfalso; omega)); (rcases rlF80 i hs with h | h; exact h; (exfalso; omega)); (rcases rlG80 i hs with h | h; exact h; (exfalso; omega)))
   replace hx8 := DLd.keep hx8 hk161 (fun q hq hs => by rcases hs with hs | hs | hs; exact (fun q h1 h2 => hpr8.dHX q h2 h1) q hq (by rw [show q = g8 from hs]; exact (Rfr.atg hr8)); exact (fun q h1 h2 => hpr8.dFX q h2 h1) q hq hs; exact (fun q h1 h2 => hpr8.dGX q h2 h1) q hq hs)
   replace hy8 := DVt.keep hy8 hk161 (fun q hq hs => by rcases hs with hs | hs | hs; exact (fun q h1 h2 => hpr8.dHY q h2 h1) q hq (by rw [show q = g8 from hs]; exact (Rfr.atg hr8)); exact (fun q h1 h2 => hpr8.dFY q h2 h1) q hq hs; exact (fun q h1 h2 => hpr8.dGY q h2 h1) q hq hs)
   replace hz8 := DRf.keep hz8 hk161 (fun q hq hs => by rcases hs with hs | hs | hs; exact (fun q h1 h2 => hpr8.dHZ q h2 h1) q hq (by rw [show q = g8 from hs]; exact (Rfr.atg hr8)); exact (fun q h1 h2 => hpr8.dFZ q h2 h1) q hq hs; exact (fun q h1 h2 => hpr8.dGZ q h2 h1) q hq hs)
   have own176 : ∀ q, F162 q → w.heap.size ≤ q ∧ q ≠ b138 := fun q hq => by rcases hfr164 q hq with h | h; (have h1 := owH8 q h; have h2 := ltH8 q h; omega); omega
   have lt175 := Rfr.lt ho163
   have rel177 : ∀ q, F162 q → B9 q ∨ w138.heap.size ≤ q := fun q hq => by rcases hfr164 q hq with h | h; exact rlH80 q h; exact .inr (by omega)
   have rel178 : ∀ q, F162 q → F140 q ∨ w144.heap.size ≤ q := fun q hq => by rcases hfr164 q hq with h | h; exact rbH8 q h; exact .inr (by omega)
   have dis179 : ∀ q, F162 q → ¬ X8 q := fun q h1 h2 => by rcases hfr164 q h1 with h | h; exact hpr8.dHX q h h2; (have h4 := ltX8 q h2; omega)
   have dis180 : ∀ q, F162 q → ¬ Y8 q := fun q h1 h2 => by rcases hfr164 q h1 with h | h; exact hpr8.dHY q h h2; (have h4 := ltY8 q h2; omega)
   have dis181 : ∀ q, F162 q → ¬ Z8 q := fun q h1 h2 => by rcases hfr164 q h1 with h | h; exact hpr8.dHZ q h h2; (have h4 := ltZ8 q h2; omega)
   have own183 : ∀ q, F165 q → w.heap.size ≤ q ∧ q ≠ b138 := fun q hq => by rcases hfr167 q hq with h | h; (have h1 := owF8 q h; have h2 := ltF8 q h; omega); omega
   have lt182 := VotT.lt ho166
   have rel184 : ∀ q, F165 q → B9 q ∨ w138.heap.size ≤ q := fun q hq => by rcases hfr167 q hq with h | h; exact rlF80 q h; exact .inr (by omega)
   have rel185 : ∀ q, F165 q → F140 q ∨ w144.heap.size ≤ q := fun q hq => by rcases hfr167 q hq with h | h; exact rbF8 q h; exact .inr (by omega)
   have dis186 : ∀ q, F165 q → ¬ X8 q := fun q h1 h2 => by rcases hfr167 q h1 with h | h; exact hpr8.dFX q h h2; (have h4 := ltX8 q h2; omega)
   have dis187 : ∀ q, F165 q → ¬ Y8 q := fun q h1 h2 => by rcases hfr167 q h1 with h | h; exact hpr8.dFY q h h2; (have h4 := ltY8 q h2; omega)
   have dis188 : ∀ q, F165 q → ¬ Z8 q := fun q h1 h2 => by rcases hfr167 q h1 with h | h; exact hpr8.dFZ q h h2; (have h4 := ltZ8 q h2; omega)
   have own190 : ∀ q, F168 q → w.heap.size ≤ q ∧ q ≠ b138 := fun q hq => by rcases hfr170 q hq with h | h; (have h1 := owG8 q h; have h2 := ltG8 q h; omega); omega
   have lt189 := Led.lt ho169
   have rel191 : ∀ q, F168 q → B9 q ∨ w138.heap.size ≤ q := fun q hq => by rcases hfr170 q hq with h | h; exact rlG80 q h; exact .inr (by omega)
   have rel192 : ∀ q, F168 q → F140 q ∨ w144.heap.size ≤ q := fun q hq => by rcases hfr170 q hq with h | h; exact rbG8 q h; exact .inr (by omega)
   have dis193 : ∀ q, F168 q → ¬ X8 q := fun q h1 h2 => by rcases hfr170 q h1 with h | h; exact hpr8.dGX q h h2; (have h4 := ltX8 q h2; omega)
   have dis194 : ∀ q, F168 q → ¬ Y8 q := fun q h1 h2 => by rcases hfr170 q h1 with h | h; exact hpr8.dGY q h h2; (have h4 := ltY8 q h2; omega)
   have dis195 : ∀ q, F168 q → ¬ Z8 q := fun q h1 h2 => by rcases hfr170 q h1 with h | h; exact hpr8.dGZ q h h2; (have h4 := ltZ8 q h2; omega)
   replace ho163 : Rfr F162 w160 r8 g8 actTs (rwSub actTs (sbQ fs i) ((1 + i : Nat) : Int) (Int.tmod (i : Int) 3) 0 z0 0).rs := ho163
   replace ho166 : VotT F165 w160 v8 ((rwSub actTs (sbQ fs i) ((1 + i : Nat) : Int) (Int.tmod (i : Int) 3) 0 z0 0).s) := ho166
   replace ho169 : Led F168 w160 l8 (rwSub actTs (sbQ fs i) ((1 + i : Nat) : Int) (Int.tmod (i : Int) 3) 0 z0 0).xs (rwSub actTs (sbQ fs i) ((1 + i : Nat) : Int) (Int.tmod (i : Int) 3) 0 z0 0).cs := ho169
   refine Oe ?_
   refine V_draws (acts [17]) (fun q => q ≠ b138) [[0, 1, 2, 3, 4, 5, 6, 7, 8, 9, 10, 11, 12, 13, 14, 15, 16, 17]] (by kernel_rfl) (by repeat first | exact (by first | exact (by first | exact sure_body (by rintro _ _ ⟨_, _, h, _⟩; exact ⟨_, h⟩) | exact sure_body (by rintro _ _ ⟨_, _, h, _⟩; exact ⟨_, h⟩) | exact sure_body (by rintro _ _ ⟨h, _⟩; exact ⟨_, h⟩)) | exact sure_body (by rintro _ _ ⟨_, _, _, h, _⟩; exact ⟨_, h⟩)) | refine sure_then ?_ | refine sure_block ?_ | refine sure_join ?_) (by kernel_rfl) ?_
   intro w197 hk196 he198 L hL199
   have hsz200 := Keep.size hk196
   replace hb8 := hb8.k0 hk196
   replace hK0 := hK0.tn hk196
   replace hk146 := hk146.tn hk196
   replace hx8 := DLd.keep hx8 hk196 nk
   replace hy8 := DVt.keep hy8 hk196 nk
   replace hz8 := DRf.keep hz8 hk196 nk
   replace ho163 := ho163.keep hk196 nk
   replace ho166 := ho166.keep hk196 nk
   replace ho169 := ho169.keep hk196 nk
   have qhb8 := hb8
   have K201 : Keep (fun q => q ≠ b138) w197 w197 := Keep.refl _ _
   obtain rfl := List.mem_singleton.1 hL199
   refine Gn [3, 4, 5, 6, 7, 8, 9, 10, 11, 12, 13, 14, 15, 16, 17] [1, 15, 16, 90, 91, 115] ?_
   refine Gc 36 (.tmp 115) 5 (pt z8) (some 116) qhb8 (by show ¬ (b138 ≠ b138); omega) rfl ?_
   refine Gn [7, 8, 9, 10, 11, 12, 13, 14, 15, 16, 17] [1, 15, 16, 90, 91, 116, 119] ?_
   refine Gc 34 (.tmp 119) 3 (pt x8) (some 120) qhb8 (by show ¬ (b138 ≠ b138); omega) rfl ?_
   refine Gn [11, 12, 13, 14, 15, 16, 17] [1, 15, 16, 90, 91, 116, 120, 123] ?_
   refine Gc 35 (.tmp 123) 4 (pt y8) (some 124) qhb8 (by show ¬ (b138 ≠ b138); omega) rfl ?_
   have hw202 : IntKind.i64.wrap (1 + (i : Int)) = ((1 + i : Nat) : Int) := wrp
   refine Gs [14, 15, 16, 17] [(1, nt refs), (15, pt b138), (16, nt (i : Int)), (90, nt (i : Int)), (91, .bool (decide ((i : Int) < 5))), (116, pt z8), (120, pt x8), (124, pt y8), (126, nt (IntKind.i64.wrap (1 + (i : Int))))] ?_
   refine GI_eq [(1, nt refs), (15, pt b138), (16, nt (i : Int)), (90, nt (i : Int)), (91, .bool (decide ((i : Int) < 5))), (116, pt z8), (120, pt x8), (124, pt y8), (126, nt ((1 + i : Nat) : Int))] (by rw [hw202]) ?_
   refine Gs [17] [(1, nt refs), (15, pt b138), (16, nt (i : Int)), (90, nt (i : Int)), (91, .bool (decide ((i : Int) < 5))), (116, pt z8), (120, pt x8), (124, pt y8), (126, nt ((1 + i : Nat) : Int)), (128, nt (Int.tmod (i : Int) 3)), (129, .agg (hshc z0).toArray)] ?_
   refine GI_final 17 (by kernel_rfl) (by kernel_rfl) ?_
   refine Ok (kL 25 #[(.tmp 116), (.tmp 120), (.tmp 124), (.tmp 126), (.tmp 128), (.tmp 129), (.const (nt 0)), (.const (nt 0))] #[36, 34, 35, 3, 3, 40, 3, 3]) 25 #[pt z8, pt x8, pt y8, nt ((1 + i : Nat) : Int), nt (Int.tmod (i : Int) 3), .agg (hshc z0).toArray, nt 0, nt 0] (some 130) (rsub12_spec Z8 z8 actTs (sbQ fs i).rs Y8 y8 (sbQ fs i).s X8 x8 (sbQ fs i).xs (sbQ fs i).cs ((1 + i : Nat) : Int) (Int.tmod (i : Int) 3) z0 0 0 _ hz8 hy8 hx8 (fun q h1 h2 => hpr8.dYZ q h2 h1) (fun q h1 h2 => hpr8.dXZ q h2 h1) (fun q h1 h2 => hpr8.dXY q h2 h1)) ?_
   rintro _ w205 ⟨rfl, ⟨F207, F210, F213, ho208, ho211, ho214, hfr209, hfr212, hfr215, hdis216, hdis217, hdis218⟩, hk206⟩
   refine ⟨_, rfl, ?_⟩
   have hsz219 := Keep.size hk206
   replace hb8 := hb8.keep hk206 (fun hs => by rcases hs with hs | hs | hs; (have u0 := owZ8 _ hs; have u1 := ltZ8 _ hs; omega); (have u0 := owY8 _ hs; have u1 := ltY8 _ hs; omega); (have u0 := owX8 _ hs; have u1 := ltX8 _ hs; omega))
   replace hK0 := Keep.fresh hK0 hk206 (by intro i hi hs; first | exact hs | (rcases hs with hs | hs | hs; (have u0 := owZ8 i hs; have u1 := ltZ8 i hs; omega); (have u0 := owY8 i hs; have u1 := ltY8 i hs; omega); (have u0 := owX8 i hs; have u1 := ltX8 i hs; omega)))
   replace hk146 := Keep.fresh hk146 hk206 (fun i hi hs => by rcases hs with hs | hs | hs; (rcases rlZ80 i hs with h | h; exact h; (exfalso; omega)); (rcases rlY80 i hs with h | h; exact h; (exfalso; omega)); (rcases rlX80 i hs with h | h; exact h; (exfalso; omega)))
   replace ho163 := ho163.keep hk206 (fun q hq hs => by rcases hs with hs | hs | hs; exact dis181 q hq hs; exact dis180 q hq hs; exact dis179 q hq hs)
   replace ho166 := ho166.keep hk206 (fun q hq hs => by rcases hs with hs | hs | hs; exact dis188 q hq hs; exact dis187 q hq hs; exact dis186 q hq hs)
   replace ho169 := ho169.keep hk206 (fun q hq hs => by rcases hs with hs | hs | hs; exact dis195 q hq hs; exact dis194 q hq hs; exact dis193 q hq hs)
   have own221 : ∀ q, F207 q → w.heap.size ≤ q ∧ q ≠ b138 := fun q hq => by rcases hfr209 q hq with h | h; (have h1 := owZ8 q h; have h2 := ltZ8 q h; omega); omega
   have lt220 := DRf.lt ho208
   have rel222 : ∀ q, F207 q → B9 q ∨ w138.heap.size ≤ q := fun q hq => by rcases hfr209 q hq with h | h; exact rlZ80 q h; exact .inr (by omega)
   have rel223 : ∀ q, F207 q → F140 q ∨ w144.heap.size ≤ q := fun q hq => by rcases hfr209 q hq with h | h; exact rbZ8 q h; exact .inr (by omega)
   have dis224 : ∀ q, F207 q → ¬ F162 q := fun q h1 h2 => by rcases hfr209 q h1 with h | h; exact (fun q h1 h2 => dis181 q h2 h1) q h h2; (have h4 := lt175 q h2; omega)
   have dis225 : ∀ q, F207 q → ¬ F165 q := fun q h1 h2 => by rcases hfr209 q h1 with h | h; exact (fun q h1 h2 => dis188 q h2 h1) q h h2; (have h4 := lt182 q h2; omega)
   have dis226 : ∀ q, F207 q → ¬ F168 q := fun q h1 h2 => by rcases hfr209 q h1 with h | h; exact (fun q h1 h2 => dis195 q h2 h1) q h h2; (have h4 := lt189 q h2; omega)
   have own228 : ∀ q, F210 q → w.heap.size ≤ q ∧ q ≠ b138 := fun q hq => by rcases hfr212 q hq with h | h; (have h1 := owY8 q h; have h2 := ltY8 q h; omega); omega
   have lt227 := DVt.lt ho211
   have rel229 : ∀ q, F210 q → B9 q ∨ w138.heap.size ≤ q := fun q hq => by rcases hfr212 q hq with h | h; exact rlY80 q h; exact .inr (by omega)
   have rel230 : ∀ q, F210 q → F140 q ∨ w144.heap.size ≤ q := fun q hq => by rcases hfr212 q hq with h | h; exact rbY8 q h; exact .inr (by omega)
   have dis231 : ∀ q, F210 q → ¬ F162 q := fun q h1 h2 => by rcases hfr212 q h1 with h | h; exact (fun q h1 h2 => dis180 q h2 h1) q h h2; (have h4 := lt175 q h2; omega)
   have dis232 : ∀ q, F210 q → ¬ F165 q := fun q h1 h2 => by rcases hfr212 q h1 with h | h; exact (fun q h1 h2 => dis187 q h2 h1) q h h2; (have h4 := lt182 q h2; omega)
   have dis233 : ∀ q, F210 q → ¬ F168 q := fun q h1 h2 => by rcases hfr212 q h1 with h | h; exact (fun q h1 h2 => dis194 q h2 h1) q h h2; (have h4 := lt189 q h2; omega)
   have own235 : ∀ q, F213 q → w.heap.size ≤ q ∧ q ≠ b138 := fun q hq => by rcases hfr215 q hq with h | h; (have h1 := owX8 q h; have h2 := ltX8 q h; omega); omega
   have lt234 := DLd.lt ho214
   have rel236 : ∀ q, F213 q → B9 q ∨ w138.heap.size ≤ q := fun q hq => by rcases hfr215 q hq with h | h; exact rlX80 q h; exact .inr (by omega)
   have rel237 : ∀ q, F213 q → F140 q ∨ w144.heap.size ≤ q := fun q hq => by rcases hfr215 q hq with h | h; exact rbX8 q h; exact .inr (by omega)
   have dis238 : ∀ q, F213 q → ¬ F162 q := fun q h1 h2 => by rcases hfr215 q h1 with h | h; exact (fun q h1 h2 => dis179 q h2 h1) q h h2; (have h4 := lt175 q h2; omega)
   have dis239 : ∀ q, F213 q → ¬ F165 q := fun q h1 h2 => by rcases hfr215 q h1 with h | h; exact (fun q h1 h2 => dis186 q h2 h1) q h h2; (have h4 := lt182 q h2; omega)
   have dis240 : ∀ q, F213 q → ¬ F168 q := fun q h1 h2 => by rcases hfr215 q h1 with h | h; exact (fun q h1 h2 => dis193 q h2 h1) q h h2; (have h4 := lt189 q h2; omega)
   replace ho214 : DLd F213 w205 x8 (rwSub actTs (sbQ fs i) ((1 + i : Nat) : Int) (Int.tmod (i : Int) 3) 0 z0 0).xs (rwSub actTs (sbQ fs i) ((1 + i : Nat) : Int) (Int.tmod (i : Int) 3) 0 z0 0).cs := ho214
   replace ho211 : DVt F210 w205 y8 ((rwSub actTs (sbQ fs i) ((1 + i : Nat) : Int) (Int.tmod (i : Int) 3) 0 z0 0).s) := ho211
   replace ho208 : DRf F207 w205 z8 actTs (rwSub actTs (sbQ fs i) ((1 + i : Nat) : Int) (Int.tmod (i : Int) 3) 0 z0 0).rs := ho208
   refine OI_end rfl ?_
   refine X_block ?_
   refine X_then ?_
   refine V_region ?_
   have hw241 : IntKind.i64.wrap ((i : Int) + 1) = ((i + 1 : Nat) : Int) := wrp
   refine Os 2 [(1, nt refs), (15, pt b138), (90, nt (i : Int)), (91, .bool (decide ((i : Int) < 5))), (94, nt (IntKind.i64.wrap ((i : Int) + 1)))] ?_
   refine Oq (u := nt (IntKind.i64.wrap ((i : Int) + 1))) (v := nt ((i + 1 : Nat) : Int)) 94 (by rw [hw241]) ?_
   refine Os 3 [(1, nt refs), (15, pt b138), (16, nt ((i + 1 : Nat) : Int)), (90, nt (i : Int)), (91, .bool (decide ((i : Int) < 5)))] ?_
   refine OI_end rfl ?_
   obtain ⟨B242, ho243, hfr244⟩ := PrX.pack (B := F140) (N := w144.heap.size) (ts := actTs) (q := (sbQ fs (i + 1))) hb8 ho163 ho166 ho169 ho214 ho211 ho208 hdis171 hdis172 (fun q h1 h2 => dis238 q h2 h1) (fun q h1 h2 => dis231 q h2 h1) (fun q h1 h2 => dis224 q h2 h1) hdis173 (fun q h1 h2 => dis239 q h2 h1) (fun q h1 h2 => dis232 q h2 h1) (fun q h1 h2 => dis225 q h2 h1) (fun q h1 h2 => dis240 q h2 h1) (fun q h1 h2 => dis233 q h2 h1) (fun q h1 h2 => dis226 q h2 h1) (fun q h1 h2 => hdis218 q h2 h1) (fun q h1 h2 => hdis217 q h2 h1) (fun q h1 h2 => hdis216 q h2 h1) (fun q h => by have h1 := own176 q h; omega) (fun q h => by have h1 := own183 q h; omega) (fun q h => by have h1 := own190 q h; omega) (fun q h => by have h1 := own235 q h; omega) (fun q h => by have h1 := own228 q h; omega) (fun q h => by have h1 := own221 q h; omega) hBb8 rel178 rel185 rel192 rel237 rel230 rel223
   have own246 : ∀ q, B242 q → w.heap.size ≤ q := fun q hq => by rcases hfr244 q hq with h | h; (have h1 := own142 q h; have h2 := lt148 q h; omega); omega
   have lt245 := Pr.lt ho243
   have rel247 : ∀ q, B242 q → B9 q ∨ w138.heap.size ≤ q := fun q hq => by rcases hfr244 q hq with h | h; exact rel143 q h; exact .inr (by omega)
   exact V_again (k145 - 1) (by omega) [(1, nt refs), (15, pt b138), (16, nt ((i + 1 : Nat) : Int))] rfl ⟨i + 1, B242, by omega, by omega, ho243, (fun q hq => by have h1 := own246 q hq; have h2 := lt245 q hq; omega), rel247, hk146, rfl⟩
  refine V_exit ?_
  refine X_exit_then ?_
  refine X_exit_then ?_
  refine X_exit_here ?_
  refine X_then ?_
  refine Vs [(4, pt b138)] ?_
  refine V_ret ?_
  obtain ⟨B248, ho249, hfr250⟩ := PrX.pack (B := F140) (N := w144.heap.size) (ts := actTs) (q := (sbQ fs i)) hb8 hr8 hv8 hl8 hx8 hy8 hz8 hpr8.dHF hpr8.dHG hpr8.dHX hpr8.dHY hpr8.dHZ hpr8.dFG hpr8.dFX hpr8.dFY hpr8.dFZ hpr8.dGX hpr8.dGY hpr8.dGZ hpr8.dXY hpr8.dXZ hpr8.dYZ (fun q h => by have h1 := owH8 q h; omega) (fun q h => by have h1 := owF8 q h; omega) (fun q h => by have h1 := owG8 q h; omega) (fun q h => by have h1 := owX8 q h; omega) (fun q h => by have h1 := owY8 q h; omega) (fun q h => by have h1 := owZ8 q h; omega) hBb8 rbH8 rbF8 rbG8 rbX8 rbY8 rbZ8
  have own252 : ∀ q, B248 q → w.heap.size ≤ q := fun q hq => by rcases hfr250 q hq with h | h; (have h1 := own142 q h; have h2 := lt148 q h; omega); omega
  have lt251 := Pr.lt ho249
  have rel253 : ∀ q, B248 q → B9 q ∨ w138.heap.size ≤ q := fun q hq => by rcases hfr250 q hq with h | h; exact rel143 q h; exact .inr (by omega)
  have hie : i = nRef refs := by omega
  rw [hie] at ho249
  exact X_return _ rfl ⟨b138, B248, rfl, ho249, hK0, fun q hq => by have h1 := own252 q hq; omega⟩
 refine OI_eq [(1, nt refs), (15, pt b138), (16, nt (i : Int)), (89, .bool false)] (by first | simp [hg149] | rfl) ?_
 refine Ose [(1, nt refs), (15, pt b138), (16, nt (i : Int)), (90, undef), (91, undef), (92, .bool false)] ?_
 refine V_false rfl ?_
 refine V_exit ?_
 refine X_exit_then ?_
 refine X_exit_then ?_
 refine X_exit_here ?_
 refine X_then ?_
 refine Vs [(4, pt b138)] ?_
 refine V_ret ?_
 obtain ⟨B254, ho255, hfr256⟩ := PrX.pack (B := F140) (N := w144.heap.size) (ts := actTs) (q := (sbQ fs i)) hb8 hr8 hv8 hl8 hx8 hy8 hz8 hpr8.dHF hpr8.dHG hpr8.dHX hpr8.dHY hpr8.dHZ hpr8.dFG hpr8.dFX hpr8.dFY hpr8.dFZ hpr8.dGX hpr8.dGY hpr8.dGZ hpr8.dXY hpr8.dXZ hpr8.dYZ (fun q h => by have h1 := owH8 q h; omega) (fun q h => by have h1 := owF8 q h; omega) (fun q h => by have h1 := owG8 q h; omega) (fun q h => by have h1 := owX8 q h; omega) (fun q h => by have h1 := owY8 q h; omega) (fun q h => by have h1 := owZ8 q h; omega) hBb8 rbH8 rbF8 rbG8 rbX8 rbY8 rbZ8
 have own258 : ∀ q, B254 q → w.heap.size ≤ q := fun q hq => by rcases hfr256 q hq with h | h; (have h1 := own142 q h; have h2 := lt148 q h; omega); omega
 have lt257 := Pr.lt ho255
 have rel259 : ∀ q, B254 q → B9 q ∨ w138.heap.size ≤ q := fun q hq => by rcases hfr256 q hq with h | h; exact rel143 q h; exact .inr (by omega)
 have hie : i = nRef refs := by omega
 rw [hie] at ho255
 exact X_return _ rfl ⟨b138, B254, rfl, ho255, hK0, fun q hq => by have h1 := own258 q hq; omega⟩
end Go.Al

namespace Go.Al
open Go Go.RowKit Go.Proofs
def rkQ : RW := sbQ [] 3
def rkD (K track ref : Int) : RsA := doD actTs track 9 (CA.mk K 0 ref none 0 []) rkQ
def rkE (K track ref : Int) : Int := (doD actTs track 9 (CA.mk K 0 ref none 0 []) (rkD K track ref).2.2).2.1
theorem rk_all : ((List.range 2).all fun k => (List.range 3).all fun t => (List.range 5).all fun r => decide (
    (t < k + 1 → (rkD (3 + k) t r).2.1 = 8 ∧ (rkD (3 + k) t r).1.length = 0 ∧ ((getR (rkD (3 + k) t r).2.2.rs r).isSome = true → (getA (rkD (3 + k) t r).2.2.rs r).state = 1)) ∧
    (¬ t < k + 1 → r > 2 → (rkD (3 + k) t r).2.1 = 4 ∧ (rkD (3 + k) t r).1.length = 0) ∧
    (¬ t < k + 1 → ¬ r > 2 → (rkD (3 + k) t r).2.1 = 0 ∧ 1 ≤ (rkD (3 + k) t r).1.length ∧ ¬ (getA (rkD (3 + k) t r).2.2.rs r).state = 1 ∧ (getA (rkD (3 + k) t r).2.2.rs r).stop = 9 ∧ rkE (3 + k) t r = 9))) = true := by kernel_rfl
theorem rk_at {k : Nat} {K t r : Int} (hk : k < 2) (hK : K = 3 + k) (ht : 0 ≤ t ∧ t ≤ 2) (hr : 0 ≤ r ∧ r ≤ 4) :
    (t < k + 1 → (rkD K t r).2.1 = 8 ∧ (rkD K t r).1.length = 0 ∧ ((getR (rkD K t r).2.2.rs r).isSome = true → (getA (rkD K t r).2.2.rs r).state = 1)) ∧
    (¬ t < k + 1 → r > 2 → (rkD K t r).2.1 = 4 ∧ (rkD K t r).1.length = 0) ∧
    (¬ t < k + 1 → ¬ r > 2 → (rkD K t r).2.1 = 0 ∧ 1 ≤ (rkD K t r).1.length ∧ ¬ (getA (rkD K t r).2.2.rs r).state = 1 ∧ (getA (rkD K t r).2.2.rs r).stop = 9 ∧ rkE K t r = 9) := by
  obtain ⟨t, rfl⟩ : ∃ n : Nat, t = n := ⟨t.toNat, by omega⟩
  obtain ⟨r, rfl⟩ : ∃ n : Nat, r = n := ⟨r.toNat, by omega⟩
  subst hK
  have h := of_decide_eq_true (List.all_eq_true.1 (List.all_eq_true.1 (List.all_eq_true.1 rk_all k (List.mem_range.2 hk)) t (List.mem_range.2 (by omega))) r (List.mem_range.2 (by omega)))
  exact ⟨fun h1 => h.1 (by omega), fun h1 h2 => h.2.1 (by omega) (by omega), fun h1 h2 => h.2.2 (by omega) (by omega)⟩
end Go.Al

namespace Go.Al
open Go Go.RowKit Go.Proofs
theorem kn1 : doD actTs 1 0 (CA.mk 1 0 7 none 0 []) (acQ []) = ([Evt.mk 5 1 7], 0, acQ []) := by kernel_rfl
theorem kn2 : doD actTs 0 0 (CA.mk 2 1 6 none 0 []) (acQ []) = ([], 10, acQ []) := by kernel_rfl
set_option maxRecDepth 10000 in
set_option maxHeartbeats 2000000 in
theorem known_spec (w : World) : Calls Tryz.prog 12 #[] w (rk_ w (.bool true)) := by
 have hK0 : Keep none_ w w := Keep.refl _ _
 have hzhK0 := Keep.size hK0
 refine enterV Tryz.func12 rfl [] 61 rfl rfl rfl ?_
 refine Vr ?_
 refine On 1 [] ?_
 refine Oer ?_
 refine Ok (kL 9 #[(Operand.const (Value.slice none 0 0)), (.const (nt 0))] #[49, 3]) 9 #[.slice none 0 0, nt 0] (some 6) (begin0 none 0 [] _ (.inl rfl) (by simp)) ?_
 rintro _ w3 ⟨b5, r6, gg7, v8, l9, H10, F11, G12, xv13, yv14, zv15, rfl, hb16, hR17, hV18, hL19, hk4, hge20, oH21, oF22, oG23, dHF24, dHG25, dFG26⟩
 refine ⟨_, rfl, ?_⟩
 have hsz27 := Keep.size hk4
 replace hK0 := hK0.tn hk4
 have hb5lt := hb16.lt
 have own28 : ∀ q, H10 q → w.heap.size ≤ q ∧ q ≠ b5 := fun q hq => by have h1 := oH21 q hq; omega
 have lt29 := Rfr.lt hR17
 have own30 : ∀ q, F11 q → w.heap.size ≤ q ∧ q ≠ b5 := fun q hq => by have h1 := oF22 q hq; omega
 have lt31 := VotT.lt hV18
 have own32 : ∀ q, G12 q → w.heap.size ≤ q ∧ q ≠ b5 := fun q hq => by have h1 := oG23 q hq; omega
 have lt33 := Led.lt hL19
 replace hR17 : Rfr H10 w3 r6 gg7 actTs (acQ []).rs := hR17
 replace hV18 : VotT F11 w3 v8 ((acQ []).s) := hV18
 replace hL19 : Led G12 w3 l9 (acQ []).xs (acQ []).cs := hL19
 refine On 2 [1] ?_
 refine Oe ?_
 refine V_seq ?_
 refine Vs [(1, pt b5), (8, .bool false)] ?_
 refine V_false rfl ?_
 refine V_skip ?_
 refine X_then ?_
 refine V_seq ?_
 refine V_draws (acts [13]) none_ [[0, 1, 2, 3, 4, 5, 6, 7, 8, 9, 10, 11, 12, 13, 14, 15, 16, 17, 18]] (by kernel_rfl) (by repeat first | exact (by first | exact sure_body (by rintro _ _ ⟨_, _, h, _⟩; exact ⟨_, h⟩) | exact sure_body (by rintro _ _ ⟨_, _, _, _, _, _, _, _, _, _, _, h, _⟩; exact ⟨_, h⟩) | exact sure_body (by rintro _ _ ⟨h, _⟩; exact ⟨_, h⟩)) | refine sure_then ?_ | refine sure_block ?_ | refine sure_join ?_) (by kernel_rfl) ?_
 intro w35 hk34 he36 L hL37
 have hsz38 := Keep.size hk34
 replace hb16 := hb16.k0 hk34
 replace hK0 := hK0.tn hk34
 replace hR17 := hR17.keep hk34 nk
 replace hV18 := hV18.keep hk34 nk
 replace hL19 := hL19.keep hk34 nk
 have qhb16 := hb16
 have K39 : Keep none_ w35 w35 := Keep.refl _ _
 obtain rfl := List.mem_singleton.1 hL37
 refine Gn [3, 4, 5, 6, 7, 8, 9, 10, 11, 12, 13, 14, 15, 16, 17, 18] [1, 12] ?_
 refine Gc0 31 (.tmp 12) 0 (pt l9) (some 13) qhb16 rfl ?_
 refine Gn [7, 8, 9, 10, 11, 12, 13, 14, 15, 16, 17, 18] [1, 13, 16] ?_
 refine Gc0 32 (.tmp 16) 1 (pt v8) (some 17) qhb16 rfl ?_
 refine Gn [11, 12, 13, 14, 15, 16, 17, 18] [1, 13, 17, 20] ?_
 refine Gc0 33 (.tmp 20) 2 (pt r6) (some 21) qhb16 rfl ?_
 refine Gs [13, 14, 15, 16, 17, 18] [(1, pt b5), (13, pt l9), (17, pt v8), (21, pt r6), (22, .agg (CA.cells (CA.mk 1 0 7 none 0 [])).toArray)] ?_
 refine Gk0 (kL 10 #[(.tmp 13), (.tmp 17), (.tmp 21), (.tmp 22), (.const (nt 1)), (.const (nt 0))] #[31, 32, 33, 26, 3, 3]) 10 #[pt l9, pt v8, pt r6, .agg (CA.cells (CA.mk 1 0 7 none 0 [])).toArray, nt 1, nt 0] (some 23) (do_spec none_ (CA.mk 1 0 7 none 0 []) r6 gg7 actTs v8 l9 1 0 H10 F11 G12 (acQ []) _ (RepIn.none (fun q h => (inA_none h).elim)) hR17 hV18 hL19 dHF24 dHG25 dFG26 (fun q h => h.elim)) ?_
 rintro _ w42 ⟨A44, cap44, rfl, hA44, ow44, ⟨F45, F48, F51, ho46, ho49, ho52, hfr47, hfr50, hfr53, hdis54, hdis55, hdis56, dA57, dA58, dA59⟩, hk43⟩
 refine ⟨_, rfl, ?_⟩
 have hsz60 := Keep.size hk43
 replace hb16 := hb16.keep hk43 (fun hs => by rcases hs with hs | hs | hs; (have u9 : _ = gg7 := hs; have u0 := own28 _ (Rfr.atg hR17); have u1 := lt29 _ (Rfr.atg hR17); omega); (have u0 := own30 _ hs; have u1 := lt31 _ hs; omega); (have u0 := own32 _ hs; have u1 := lt33 _ hs; omega))
 replace hK0 := Keep.fresh hK0 hk43 (by intro i hi hs; first | exact hs | (rcases hs with hs | hs | hs; (have u9 : _ = gg7 := hs; have u0 := own28 _ (Rfr.atg hR17); have u1 := lt29 _ (Rfr.atg hR17); omega); (have u0 := own30 i hs; have u1 := lt31 i hs; omega); (have u0 := own32 i hs; have u1 := lt33 i hs; omega)))
 have own62 : ∀ q, F45 q → w.heap.size ≤ q ∧ q ≠ b5 := fun q hq => by rcases hfr47 q hq with h | h; (have h1 := own28 q h; have h2 := lt29 q h; omega); omega
 have lt61 := Rfr.lt ho46
 have own64 : ∀ q, F48 q → w.heap.size ≤ q ∧ q ≠ b5 := fun q hq => by rcases hfr50 q hq with h | h; (have h1 := own30 q h; have h2 := lt31 q h; omega); omega
 have lt63 := VotT.lt ho49
 have own66 : ∀ q, F51 q → w.heap.size ≤ q ∧ q ≠ b5 := fun q hq => by rcases hfr53 q hq with h | h; (have h1 := own32 q h; have h2 := lt33 q h; omega); omega
 have lt65 := Led.lt ho52
 have ltA44 := SlT.lt hA44
 replace hA44 := SlT.ofE (xs := (doD actTs 1 0 (CA.mk 1 0 7 none 0 []) (acQ [])).1) hA44 (show _ = [Evt.mk 5 1 7] from by rw [kn1])
 replace ho46 : Rfr F45 w42 r6 gg7 actTs ((doD actTs 1 0 (CA.mk 1 0 7 none 0 []) (acQ [])).2.2).rs := ho46
 replace ho49 : VotT F48 w42 v8 (((doD actTs 1 0 (CA.mk 1 0 7 none 0 []) (acQ [])).2.2).s) := ho49
 replace ho52 : Led F51 w42 l9 ((doD actTs 1 0 (CA.mk 1 0 7 none 0 []) (acQ [])).2.2).xs ((doD actTs 1 0 (CA.mk 1 0 7 none 0 []) (acQ [])).2.2).cs := ho52
 rw [kn1] at ho46
 rw [kn1] at ho49
 rw [kn1] at ho52
 replace ho46 : Rfr F45 w42 r6 gg7 actTs (acQ []).rs := ho46
 replace ho49 : VotT F48 w42 v8 ((acQ []).s) := ho49
 replace ho52 : Led F51 w42 l9 (acQ []).xs (acQ []).cs := ho52
 refine Gp_ [(1, pt b5), (23, .tuple #[.slice A44 (((doD actTs 1 0 (CA.mk 1 0 7 none 0 []) (acQ [])).1).length) cap44, nt ((doD actTs 1 0 (CA.mk 1 0 7 none 0 []) (acQ [])).2.1)])] ?_
 refine GI_eq [(1, pt b5), (23, .tuple #[.slice A44 1 cap44, nt 0])] (by rw [show (doD actTs 1 0 (CA.mk 1 0 7 none 0 []) (acQ [])).1 = [Evt.mk 5 1 7] from by rw [kn1]]; rw [kn1] <;> rfl) ?_
 refine Gs [] [(1, pt b5), (2, .slice A44 1 cap44), (3, nt 0)] ?_
 refine GI_end ?_
 refine X_then ?_
 refine V_seq ?_
 refine V_draws (acts [13]) none_ [[0, 1, 2, 3, 4, 5, 6, 7, 8, 9, 10, 11, 12, 13, 14, 15, 16, 17, 18]] (by kernel_rfl) (by repeat first | exact (by first | exact sure_body (by rintro _ _ ⟨_, _, h, _⟩; exact ⟨_, h⟩) | exact sure_body (by rintro _ _ ⟨_, _, _, _, _, _, _, _, _, _, _, h, _⟩; exact ⟨_, h⟩) | exact sure_body (by rintro _ _ ⟨h, _⟩; exact ⟨_, h⟩)) | refine sure_then ?_ | refine sure_block ?_ | refine sure_join ?_) (by kernel_rfl) ?_
 intro w68 hk67 he69 L hL70
 have hsz71 := Keep.size hk67
 replace hb16 := hb16.k0 hk67
 replace hA44 := hA44.keep0 hk67
 replace hK0 := hK0.tn hk67
 replace ho46 := ho46.keep hk67 nk
 replace ho49 := ho49.keep hk67 nk
 replace ho52 := ho52.keep hk67 nk
 have qhb16 := hb16
 have qhA44 := hA44
 have K72 : Keep none_ w68 w68 := Keep.refl _ _
 obtain rfl := List.mem_singleton.1 hL70
 refine Gn [3, 4, 5, 6, 7, 8, 9, 10, 11, 12, 13, 14, 15, 16, 17, 18] [1, 2, 3, 29] ?_
 refine Gc0 31 (.tmp 29) 0 (pt l9) (some 30) qhb16 rfl ?_
 refine Gn [7, 8, 9, 10, 11, 12, 13, 14, 15, 16, 17, 18] [1, 2, 3, 30, 33] ?_
 refine Gc0 32 (.tmp 33) 1 (pt v8) (some 34) qhb16 rfl ?_
 refine Gn [11, 12, 13, 14, 15, 16, 17, 18] [2, 3, 30, 34, 37] ?_
 refine Gc0 33 (.tmp 37) 2 (pt r6) (some 38) qhb16 rfl ?_
 refine Gs [13, 14, 15, 16, 17, 18] [(2, .slice A44 1 cap44), (3, nt 0), (30, pt l9), (34, pt v8), (38, pt r6), (39, .agg (CA.cells (CA.mk 2 1 6 none 0 [])).toArray)] ?_
 refine Gk0 (kL 10 #[(.tmp 30), (.tmp 34), (.tmp 38), (.tmp 39), (.const (nt 0)), (.const (nt 0))] #[31, 32, 33, 26, 3, 3]) 10 #[pt l9, pt v8, pt r6, .agg (CA.cells (CA.mk 2 1 6 none 0 [])).toArray, nt 0, nt 0] (some 40) (do_spec none_ (CA.mk 2 1 6 none 0 []) r6 gg7 actTs v8 l9 0 0 F45 F48 F51 (acQ []) _ (RepIn.none (fun q h => (inA_none h).elim)) ho46 ho49 ho52 hdis54 hdis55 hdis56 (fun q h => h.elim)) ?_
 rintro _ w75 ⟨A77, cap77, rfl, hA77, ow77, ⟨F78, F81, F84, ho79, ho82, ho85, hfr80, hfr83, hfr86, hdis87, hdis88, hdis89, dA90, dA91, dA92⟩, hk76⟩
 refine ⟨_, rfl, ?_⟩
 have hsz93 := Keep.size hk76
 replace hA44 := hA44.keep hk76 (fun q hq hs => by rcases hs with hs | hs | hs; exact dA57 q hq (by rw [show q = gg7 from hs]; exact (Rfr.atg ho46)); exact dA58 q hq hs; exact dA59 q hq hs)
 replace hK0 := Keep.fresh hK0 hk76 (by intro i hi hs; first | exact hs | (rcases hs with hs | hs | hs; (have u9 : _ = gg7 := hs; have u0 := own62 _ (Rfr.atg ho46); have u1 := lt61 _ (Rfr.atg ho46); omega); (have u0 := own64 i hs; have u1 := lt63 i hs; omega); (have u0 := own66 i hs; have u1 := lt65 i hs; omega)))
 have own95 : ∀ q, F78 q → w.heap.size ≤ q := fun q hq => by rcases hfr80 q hq with h | h; (have h1 := own62 q h; have h2 := lt61 q h; omega); omega
 have lt94 := Rfr.lt ho79
 have dis96 : ∀ q, F78 q → ¬ inA A44 q := fun q h1 h2 => by rcases hfr80 q h1 with h | h; exact (fun q h1 h2 => dA57 q h2 h1) q h h2; (have h4 := ltA44 q h2; omega)
 have own98 : ∀ q, F81 q → w.heap.size ≤ q := fun q hq => by rcases hfr83 q hq with h | h; (have h1 := own64 q h; have h2 := lt63 q h; omega); omega
 have lt97 := VotT.lt ho82
 have dis99 : ∀ q, F81 q → ¬ inA A44 q := fun q h1 h2 => by rcases hfr83 q h1 with h | h; exact (fun q h1 h2 => dA58 q h2 h1) q h h2; (have h4 := ltA44 q h2; omega)
 have own101 : ∀ q, F84 q → w.heap.size ≤ q := fun q hq => by rcases hfr86 q hq with h | h; (have h1 := own66 q h; have h2 := lt65 q h; omega); omega
 have lt100 := Led.lt ho85
 have dis102 : ∀ q, F84 q → ¬ inA A44 q := fun q h1 h2 => by rcases hfr86 q h1 with h | h; exact (fun q h1 h2 => dA59 q h2 h1) q h h2; (have h4 := ltA44 q h2; omega)
 have ltA77 := SlT.lt hA77
 replace hA77 := SlT.ofE (xs := (doD actTs 0 0 (CA.mk 2 1 6 none 0 []) (acQ [])).1) hA77 (show _ = ([] : List Evt) from by rw [kn2])
 replace ho79 : Rfr F78 w75 r6 gg7 actTs ((doD actTs 0 0 (CA.mk 2 1 6 none 0 []) (acQ [])).2.2).rs := ho79
 replace ho82 : VotT F81 w75 v8 (((doD actTs 0 0 (CA.mk 2 1 6 none 0 []) (acQ [])).2.2).s) := ho82
 replace ho85 : Led F84 w75 l9 ((doD actTs 0 0 (CA.mk 2 1 6 none 0 []) (acQ [])).2.2).xs ((doD actTs 0 0 (CA.mk 2 1 6 none 0 []) (acQ [])).2.2).cs := ho85
 rw [kn2] at ho79
 rw [kn2] at ho82
 rw [kn2] at ho85
 replace ho79 : Rfr F78 w75 r6 gg7 actTs (acQ []).rs := ho79
 replace ho82 : VotT F81 w75 v8 ((acQ []).s) := ho82
 replace ho85 : Led F84 w75 l9 (acQ []).xs (acQ []).cs := ho85
 refine Gp_ [(2, .slice A44 1 cap44), (3, nt 0), (40, .tuple #[.slice A77 (((doD actTs 0 0 (CA.mk 2 1 6 none 0 []) (acQ [])).1).length) cap77, nt ((doD actTs 0 0 (CA.mk 2 1 6 none 0 []) (acQ [])).2.1)])] ?_
 refine GI_eq [(2, .slice A44 1 cap44), (3, nt 0), (40, .tuple #[.slice A77 0 cap77, nt 10])] (by rw [show (doD actTs 0 0 (CA.mk 2 1 6 none 0 []) (acQ [])).1 = ([] : List Evt) from by rw [kn2]]; rw [kn2] <;> rfl) ?_
 refine Gn [] [2, 3, 5] ?_
 refine GI_end ?_
 refine X_then ?_
 refine Vr ?_
 refine On 9 [5, 50, 51] ?_
 obtain ⟨b103, o103, L103, T103, rfl, hat103⟩ := SlT.opn hA44
 have hb103lt := hat103.blk.lt
 have hob104 := ow44 b103 ⟨_, rfl, rfl⟩
 have hob105 := ltA44 b103 ⟨_, rfl, rfl⟩
 have hne106 : ∀ q, F78 q → q ≠ b103 := fun q hq hs => dis96 q hq ⟨_, rfl, hs⟩
 have own107 := fun q hq => And.intro (own95 q hq) (hne106 q hq)
 have hne108 : ∀ q, F81 q → q ≠ b103 := fun q hq hs => dis99 q hq ⟨_, rfl, hs⟩
 have own109 := fun q hq => And.intro (own98 q hq) (hne108 q hq)
 have hne110 : ∀ q, F84 q → q ≠ b103 := fun q hq hs => dis102 q hq ⟨_, rfl, hs⟩
 have own111 := fun q hq => And.intro (own101 q hq) (hne110 q hq)
 refine Oi (b := b103) (o := o103) (len := 1) (cap := cap44) (j := 0) (some 52) 27 (.tmp 51) (.const (Value.int IntKind.i64 0)) 52 3 24 .i64 ?_
 refine Oa 52 (.tmp 52) (o103 + 0 * 3) (Evt.cells (Evt.mk 5 1 7)) (some 53) 3 hat103.blk (At.elem' hat103 (es_at (rfl : ([Evt.mk 5 1 7] : List Evt)[0]? = some (Evt.mk 5 1 7)))) (At.len hat103 (es_at (rfl : ([Evt.mk 5 1 7] : List Evt)[0]? = some (Evt.mk 5 1 7)))) ?_
 refine On 12 [5, 50, 53, 54] ?_
 refine OI_pure (some 55) ((Op.binOp BinOp.eql 52 (Operand.tmp 53) (Operand.tmp 54) 52)) (by kernel_rfl) (pure_eql_same (xs := Evt.cells (Evt.mk 5 1 7)) (by kernel_rfl) (by kernel_rfl) (by kernel_rfl) (by kernel_rfl)) ?_
 refine Ose [(0, .bool true)] ?_
 refine V_ret ?_
 exact X_return (.bool true) rfl ⟨rfl, hK0⟩
end Go.Al

namespace Go.Al
open Go Go.RowKit Go.Proofs
set_option maxRecDepth 10000 in
set_option maxHeartbeats 2000000 in
theorem walk_ActRanks (track : Int) (kill : Bool) (ref : Int) (w : World) : Calls Tryz.prog 3 #[nt track, .bool kill, nt ref] w (rk_ w (.bool true)) := by
 have hK0 : Keep none_ w w := Keep.refl _ _
 have hzhK0 := Keep.size hK0
 refine enterV Tryz.func3 rfl [nt track, .bool kill, nt ref] 140 rfl rfl rfl ?_
 refine Vr ?_
 refine On 1 [0, 1, 2] ?_
 refine Oe ?_
 refine V_seq ?_
 refine Vr ?_
 refine Os 3 [(0, nt track), (1, .bool kill), (2, nt ref), (18, .bool (decide (track < 0)))] ?_
 by_cases hg1 : track < 0
 ·
  refine OI_eq [(0, nt track), (1, .bool kill), (2, nt ref), (18, .bool true)] (by first | rw [decide_eq_true hg1] | simp [hg1] | rfl) ?_
  refine Ose [(0, nt track), (1, .bool kill), (2, nt ref), (29, .bool true)] ?_
  refine V_true rfl ?_
  refine Vs [(6, .bool true)] ?_
  refine V_ret ?_
  refine X_ret_then ?_
  exact X_return (.bool true) rfl ⟨rfl, hK0⟩
 refine OI_eq [(0, nt track), (1, .bool kill), (2, nt ref), (18, .bool false)] (by first | rw [decide_eq_false hg1] | simp [hg1] | rfl) ?_
 refine Os 7 [(0, nt track), (1, .bool kill), (2, nt ref), (22, .bool (decide (track > 2)))] ?_
 by_cases hg2 : track > 2
 ·
  refine OI_eq [(0, nt track), (1, .bool kill), (2, nt ref), (22, .bool true)] (by first | rw [decide_eq_true hg2] | simp [hg2] | rfl) ?_
  refine Ose [(0, nt track), (1, .bool kill), (2, nt ref), (29, .bool true)] ?_
  refine V_true rfl ?_
  refine Vs [(6, .bool true)] ?_
  refine V_ret ?_
  refine X_ret_then ?_
  exact X_return (.bool true) rfl ⟨rfl, hK0⟩
 refine OI_eq [(0, nt track), (1, .bool kill), (2, nt ref), (22, .bool false)] (by first | rw [decide_eq_false hg2] | simp [hg2] | rfl) ?_
 refine Os 11 [(0, nt track), (1, .bool kill), (2, nt ref), (26, .bool (decide (ref < 0)))] ?_
 by_cases hg3 : ref < 0
 ·
  refine OI_eq [(0, nt track), (1, .bool kill), (2, nt ref), (26, .bool true)] (by first | rw [decide_eq_true hg3] | simp [hg3] | rfl) ?_
  refine Ose [(0, nt track), (1, .bool kill), (2, nt ref), (29, .bool true)] ?_
  refine V_true rfl ?_
  refine Vs [(6, .bool true)] ?_
  refine V_ret ?_
  refine X_ret_then ?_
  exact X_return (.bool true) rfl ⟨rfl, hK0⟩
 refine OI_eq [(0, nt track), (1, .bool kill), (2, nt ref), (26, .bool false)] (by first | rw [decide_eq_false hg3] | simp [hg3] | rfl) ?_
 refine Ose [(0, nt track), (1, .bool kill), (2, nt ref), (29, .bool (decide (ref > 4)))] ?_
 refine V_if (ref > 4) (by kernel_rfl) (fun hc4 => ?_) (fun hc4 => ?_)
 ·
  refine Vs [(6, .bool true)] ?_
  refine V_ret ?_
  refine X_ret_then ?_
  exact X_return (.bool true) rfl ⟨rfl, hK0⟩
 refine V_skip ?_
 refine X_then ?_
 refine Vr ?_
 refine Ok (kL 9 #[(Operand.const (Value.slice none 0 0)), (.const (nt 3))] #[49, 3]) 9 #[.slice none 0 0, nt 3] (some 30) (begin_ac none 0 [] 3 _ (.inl rfl) (by simp)) ?_
 rintro _ w5 ⟨b7, B8, rfl, ho9, hk6, hge10⟩
 refine ⟨_, rfl, ?_⟩
 have hsz11 := Keep.size hk6
 replace hK0 := hK0.tn hk6
 replace ho9 : Pr B8 w5 b7 actTs rkQ := ho9
 have own12 : ∀ q, B8 q → w.heap.size ≤ q := fun q hq => by have h1 := hge10 q hq; omega
 have lt13 := Pr.lt ho9
 have hb7lt : b7 < w5.heap.size := Pr.lt ho9 _ (Pr.at_ ho9)
 obtain ⟨hBlt, hBb, H, F, G, X, Y, Z, r, g, v, l, x, y, z, hpr⟩ := ho9
 have hb := hpr.blk
 have hblt := hb.lt
 have hbow := own12 _ hBb
 have hr := hpr.hr
 have owH : ∀ q, H q → (w.heap.size ≤ q) ∧ q ≠ b7 := fun q hq => by have h1 := own12 q (hpr.inH q hq).1; have h2 := (hpr.inH q hq).2; omega
 have ltH := Rfr.lt hr
 have hrlt := ltH _ (Rfr.at_ hr)
 have hrow := owH _ (Rfr.at_ hr)
 have rbH : ∀ q, H q → B8 q ∨ w5.heap.size ≤ q := fun q hq => .inl (hpr.inH q hq).1
 have hv := hpr.hv
 have owF : ∀ q, F q → (w.heap.size ≤ q) ∧ q ≠ b7 := fun q hq => by have h1 := own12 q (hpr.inF q hq).1; have h2 := (hpr.inF q hq).2; omega
 have ltF := VotT.lt hv
 have hvlt := ltF _ (VotT.at_ hv)
 have hvow := owF _ (VotT.at_ hv)
 have rbF : ∀ q, F q → B8 q ∨ w5.heap.size ≤ q := fun q hq => .inl (hpr.inF q hq).1
 have hl := hpr.hl
 have owG : ∀ q, G q → (w.heap.size ≤ q) ∧ q ≠ b7 := fun q hq => by have h1 := own12 q (hpr.inG q hq).1; have h2 := (hpr.inG q hq).2; omega
 have ltG := Led.lt hl
 have hllt := ltG _ (Led.at_ hl)
 have hlow := owG _ (Led.at_ hl)
 have rbG : ∀ q, G q → B8 q ∨ w5.heap.size ≤ q := fun q hq => .inl (hpr.inG q hq).1
 have hx := hpr.hx
 have owX : ∀ q, X q → (w.heap.size ≤ q) ∧ q ≠ b7 := fun q hq => by have h1 := own12 q (hpr.inX q hq).1; have h2 := (hpr.inX q hq).2; omega
 have ltX := DLd.lt hx
 have hxlt := ltX _ (DLd.at_ hx)
 have hxow := owX _ (DLd.at_ hx)
 have rbX : ∀ q, X q → B8 q ∨ w5.heap.size ≤ q := fun q hq => .inl (hpr.inX q hq).1
 have hy := hpr.hy
 have owY : ∀ q, Y q → (w.heap.size ≤ q) ∧ q ≠ b7 := fun q hq => by have h1 := own12 q (hpr.inY q hq).1; have h2 := (hpr.inY q hq).2; omega
 have ltY := DVt.lt hy
 have hylt := ltY _ (DVt.at_ hy)
 have hyow := owY _ (DVt.at_ hy)
 have rbY : ∀ q, Y q → B8 q ∨ w5.heap.size ≤ q := fun q hq => .inl (hpr.inY q hq).1
 have hz := hpr.hz
 have owZ : ∀ q, Z q → (w.heap.size ≤ q) ∧ q ≠ b7 := fun q hq => by have h1 := own12 q (hpr.inZ q hq).1; have h2 := (hpr.inZ q hq).2; omega
 have ltZ := DRf.lt hz
 have hzlt := ltZ _ (DRf.at_ hz)
 have hzow := owZ _ (DRf.at_ hz)
 have rbZ : ∀ q, Z q → B8 q ∨ w5.heap.size ≤ q := fun q hq => .inl (hpr.inZ q hq).1
 refine On 2 [0, 1, 2, 7] ?_
 refine Oe ?_
 refine V_seq ?_
 refine Vs [(0, nt track), (1, .bool kill), (2, nt ref), (7, pt b7), (32, .bool false)] ?_
 refine V_false rfl ?_
 refine V_skip ?_
 refine X_then ?_
 refine Vr ?_
 refine On 2 [0, 1, 2, 7, 34] ?_
 refine OI_alloc 26 (.agg #[nt 0, nt 0, nt 0, .slice none 0 0]) [nt 0, nt 0, nt 0, .slice none 0 0] (some 8) (by kernel_rfl) (by kernel_rfl) (by kernel_rfl) ?_
 intro b14 w14 e14 hb14 k14 z14
 have hsz15 := Keep.size k14
 replace hb := hb.k0 k14
 replace hK0 := hK0.tn k14
 replace hr := hr.keep k14 nk
 replace hv := hv.keep k14 nk
 replace hl := hl.keep k14 nk
 replace hx := DLd.keep hx k14 nk
 replace hy := DVt.keep hy k14 nk
 replace hz := DRf.keep hz k14 nk
 have hb14lt := hb14.lt
 refine OI_set (m := 4) (kd := true) 26 (.tmp 8) (.tmp 34) 0 (.agg #[nt 3, nt 0, nt ref, .slice none 0 0]) [nt 3, nt 0, nt ref, .slice none 0 0] none (by kernel_rfl) (by kernel_rfl) (by kernel_rfl) hb14 (by kernel_rfl) (by kernel_rfl) (by kernel_rfl) (Nat.le_of_ble_eq_true (by kernel_rfl)) (by simp [Value.oneCell']) ?_
 intro w16 hb14_19 hk17 hz18
 replace hb14_19 : Blk w16 b14 [nt 3, nt 0, nt ref, .slice none 0 0] 26 := hb14_19
 have hsz20 := Keep.size hk17
 replace hb := hb.k1 hk17
 replace hK0 := Keep.fr hK0 hk17
 replace hr := hr.keep hk17 (fun q hq hs => by have hs : q = b14 := hs; have g0 := owH q hq; have g1 := ltH q hq; omega)
 replace hv := hv.keep hk17 (fun q hq hs => by have hs : q = b14 := hs; have g0 := owF q hq; have g1 := ltF q hq; omega)
 replace hl := hl.keep hk17 (fun q hq hs => by have hs : q = b14 := hs; have g0 := owG q hq; have g1 := ltG q hq; omega)
 replace hx := DLd.keep hx hk17 (fun q hq hs => by have hs : q = b14 := hs; have g0 := owX q hq; have g1 := ltX q hq; omega)
 replace hy := DVt.keep hy hk17 (fun q hq hs => by have hs : q = b14 := hs; have g0 := owY q hq; have g1 := ltY q hq; omega)
 replace hz := DRf.keep hz hk17 (fun q hq hs => by have hs : q = b14 := hs; have g0 := owZ q hq; have g1 := ltZ q hq; omega)
 refine Oer ?_
 refine On 1 [0, 1, 2, 7, 8, 9] ?_
 refine Oe ?_
 refine V_seq ?_
 refine Vs [(0, nt track), (2, nt ref), (7, pt b7), (8, pt b14), (9, nt 1), (35, .bool kill)] ?_
 refine V_ifb (kill) (by kernel_rfl) (fun hc21 => ?_) (fun hc21 => ?_)
 ·
  refine V_region ?_
  refine On 1 [0, 2, 7, 8, 36] ?_
  refine Ot 3 (.tmp 36) (.const (Value.int IntKind.i64 4)) 0 (nt 4) hb14_19 ?_
  intro w22 hb14_25 hk23 hz24
  replace hb14_25 : Blk w22 b14 [nt 4, nt 0, nt ref, .slice none 0 0] 26 := hb14_25
  have hsz26 := Keep.size hk23
  replace hb := hb.k1 hk23
  replace hK0 := Keep.fr hK0 hk23
  replace hr := hr.keep hk23 (fun q hq hs => by have hs : q = b14 := hs; have g0 := owH q hq; have g1 := ltH q hq; omega)
  replace hv := hv.keep hk23 (fun q hq hs => by have hs : q = b14 := hs; have g0 := owF q hq; have g1 := ltF q hq; omega)
  replace hl := hl.keep hk23 (fun q hq hs => by have hs : q = b14 := hs; have g0 := owG q hq; have g1 := ltG q hq; omega)
  replace hx := DLd.keep hx hk23 (fun q hq hs => by have hs : q = b14 := hs; have g0 := owX q hq; have g1 := ltX q hq; omega)
  replace hy := DVt.keep hy hk23 (fun q hq hs => by have hs : q = b14 := hs; have g0 := owY q hq; have g1 := ltY q hq; omega)
  replace hz := DRf.keep hz hk23 (fun q hq hs => by have hs : q = b14 := hs; have g0 := owZ q hq; have g1 := ltZ q hq; omega)
  refine Ose [(0, nt track), (2, nt ref), (7, pt b7), (8, pt b14), (9, nt 2)] ?_
  refine V_seq ?_
  refine V_draws (acts [14]) (fun q => q ≠ b7 ∧ q ≠ b14) [[0, 1, 2, 3, 4, 5, 6, 7, 8, 9, 10, 11, 12, 13, 14, 15, 16, 17, 18, 19]] (by kernel_rfl) (by repeat first | exact (by first | exact sure_body (by rintro _ _ ⟨_, _, h, _⟩; exact ⟨_, h⟩) | exact sure_body (by rintro _ _ ⟨_, _, _, _, _, _, _, _, _, _, _, h, _⟩; exact ⟨_, h⟩) | exact sure_body (by rintro _ _ ⟨h, _⟩; exact ⟨_, h⟩)) | refine sure_then ?_ | refine sure_block ?_ | refine sure_join ?_) (by kernel_rfl) ?_
  intro w28 hk27 he29 L hL30
  have hsz31 := Keep.size hk27
  replace hb := hb.k0 hk27
  replace hb14_25 := hb14_25.k0 hk27
  replace hK0 := hK0.tn hk27
  replace hr := hr.keep hk27 nk
  replace hv := hv.keep hk27 nk
  replace hl := hl.keep hk27 nk
  replace hx := DLd.keep hx hk27 nk
  replace hy := DVt.keep hy hk27 nk
  replace hz := DRf.keep hz hk27 nk
  have qhb := hb
  have qhb14_25 := hb14_25
  have K32 : Keep (fun q => q ≠ b7 ∧ q ≠ b14) w28 w28 := Keep.refl _ _
  obtain rfl := List.mem_singleton.1 hL30
  refine Gn [3, 4, 5, 6, 7, 8, 9, 10, 11, 12, 13, 14, 15, 16, 17, 18, 19] [0, 2, 7, 8, 9, 40] ?_
  refine Gc 31 (.tmp 40) 0 (pt l) (some 41) qhb (by show ¬ (b7 ≠ b7 ∧ b7 ≠ b14); omega) rfl ?_
  refine Gn [7, 8, 9, 10, 11, 12, 13, 14, 15, 16, 17, 18, 19] [0, 2, 7, 8, 9, 41, 44] ?_
  refine Gc 32 (.tmp 44) 1 (pt v) (some 45) qhb (by show ¬ (b7 ≠ b7 ∧ b7 ≠ b14); omega) rfl ?_
  refine Gn [11, 12, 13, 14, 15, 16, 17, 18, 19] [0, 2, 7, 8, 9, 41, 45, 48] ?_
  refine Gc 33 (.tmp 48) 2 (pt r) (some 49) qhb (by show ¬ (b7 ≠ b7 ∧ b7 ≠ b14); omega) rfl ?_
  refine Ga 26 (.tmp 8) 0 [nt 4, nt 0, nt ref, .slice none 0 0] (some 50) 4 qhb14_25 (by show ¬ (b14 ≠ b7 ∧ b14 ≠ b14); omega) rfl rfl ?_
  refine Gn [14, 15, 16, 17, 18, 19] [0, 2, 7, 8, 9, 41, 45, 49, 50, 51] ?_
  obtain ⟨rk1, rk2, rk3⟩ := rk_at (k := 1) (K := 4) (t := track) (r := ref) (by omega) (by decide) (by omega) (by omega)
  refine Gk0 (kL 10 #[(.tmp 41), (.tmp 45), (.tmp 49), (.tmp 50), (.tmp 51), (.const (nt 9))] #[31, 32, 33, 26, 3, 3]) 10 #[pt l, pt v, pt r, .agg #[nt 4, nt 0, nt ref, .slice none 0 0], nt track, nt 9] (some 52) (do_spec none_ (CA.mk 4 0 ref none 0 []) r g actTs v l track 9 H F G rkQ _ (RepIn.none (fun q h => (inA_none h).elim)) hr hv hl hpr.dHF hpr.dHG hpr.dFG (fun q h => h.elim)) ?_
  rintro _ w37 ⟨A39, cap39, rfl, hA39, ow39, ⟨F40, F43, F46, ho41, ho44, ho47, hfr42, hfr45, hfr48, hdis49, hdis50, hdis51, dA52, dA53, dA54⟩, hk38⟩
  refine ⟨_, rfl, ?_⟩
  have hsz55 := Keep.size hk38
  replace hb := hb.keep hk38 (fun hs => by rcases hs with hs | hs | hs; (have u9 : _ = g := hs; have u0 := owH _ (Rfr.atg hr); have u1 := ltH _ (Rfr.atg hr); omega); (have u0 := owF _ hs; have u1 := ltF _ hs; omega); (have u0 := owG _ hs; have u1 := ltG _ hs; omega))
  replace hb14_25 := hb14_25.keep hk38 (fun hs => by rcases hs with hs | hs | hs; (have u9 : _ = g := hs; have u0 := owH _ (Rfr.atg hr); have u1 := ltH _ (Rfr.atg hr); omega); (have u0 := owF _ hs; have u1 := ltF _ hs; omega); (have u0 := owG _ hs; have u1 := ltG _ hs; omega))
  replace hK0 := Keep.fresh hK0 hk38 (by intro i hi hs; first | exact hs | (rcases hs with hs | hs | hs; (have u9 : _ = g := hs; have u0 := owH _ (Rfr.atg hr); have u1 := ltH _ (Rfr.atg hr); omega); (have u0 := owF i hs; have u1 := ltF i hs; omega); (have u0 := owG i hs; have u1 := ltG i hs; omega)))
  replace hx := DLd.keep hx hk38 (fun q hq hs => by rcases hs with hs | hs | hs; exact (fun q h1 h2 => hpr.dHX q h2 h1) q hq (by rw [show q = g from hs]; exact (Rfr.atg hr)); exact (fun q h1 h2 => hpr.dFX q h2 h1) q hq hs; exact (fun q h1 h2 => hpr.dGX q h2 h1) q hq hs)
  replace hy := DVt.keep hy hk38 (fun q hq hs => by rcases hs with hs | hs | hs; exact (fun q h1 h2 => hpr.dHY q h2 h1) q hq (by rw [show q = g from hs]; exact (Rfr.atg hr)); exact (fun q h1 h2 => hpr.dFY q h2 h1) q hq hs; exact (fun q h1 h2 => hpr.dGY q h2 h1) q hq hs)
  replace hz := DRf.keep hz hk38 (fun q hq hs => by rcases hs with hs | hs | hs; exact (fun q h1 h2 => hpr.dHZ q h2 h1) q hq (by rw [show q = g from hs]; exact (Rfr.atg hr)); exact (fun q h1 h2 => hpr.dFZ q h2 h1) q hq hs; exact (fun q h1 h2 => hpr.dGZ q h2 h1) q hq hs)
  have own57 : ∀ q, F40 q → w.heap.size ≤ q ∧ q ≠ b7 ∧ q ≠ b14 := fun q hq => by rcases hfr42 q hq with h | h; (have h1 := owH q h; have h2 := ltH q h; omega); omega
  have lt56 := Rfr.lt ho41
  have rel58 : ∀ q, F40 q → B8 q ∨ w5.heap.size ≤ q := fun q hq => by rcases hfr42 q hq with h | h; exact rbH q h; exact .inr (by omega)
  have dis59 : ∀ q, F40 q → ¬ X q := fun q h1 h2 => by rcases hfr42 q h1 with h | h; exact hpr.dHX q h h2; (have h4 := ltX q h2; omega)
  have dis60 : ∀ q, F40 q → ¬ Y q := fun q h1 h2 => by rcases hfr42 q h1 with h | h; exact hpr.dHY q h h2; (have h4 := ltY q h2; omega)
  have dis61 : ∀ q, F40 q → ¬ Z q := fun q h1 h2 => by rcases hfr42 q h1 with h | h; exact hpr.dHZ q h h2; (have h4 := ltZ q h2; omega)
  have own63 : ∀ q, F43 q → w.heap.size ≤ q ∧ q ≠ b7 ∧ q ≠ b14 := fun q hq => by rcases hfr45 q hq with h | h; (have h1 := owF q h; have h2 := ltF q h; omega); omega
  have lt62 := VotT.lt ho44
  have rel64 : ∀ q, F43 q → B8 q ∨ w5.heap.size ≤ q := fun q hq => by rcases hfr45 q hq with h | h; exact rbF q h; exact .inr (by omega)
  have dis65 : ∀ q, F43 q → ¬ X q := fun q h1 h2 => by rcases hfr45 q h1 with h | h; exact hpr.dFX q h h2; (have h4 := ltX q h2; omega)
  have dis66 : ∀ q, F43 q → ¬ Y q := fun q h1 h2 => by rcases hfr45 q h1 with h | h; exact hpr.dFY q h h2; (have h4 := ltY q h2; omega)
  have dis67 : ∀ q, F43 q → ¬ Z q := fun q h1 h2 => by rcases hfr45 q h1 with h | h; exact hpr.dFZ q h h2; (have h4 := ltZ q h2; omega)
  have own69 : ∀ q, F46 q → w.heap.size ≤ q ∧ q ≠ b7 ∧ q ≠ b14 := fun q hq => by rcases hfr48 q hq with h | h; (have h1 := owG q h; have h2 := ltG q h; omega); omega
  have lt68 := Led.lt ho47
  have rel70 : ∀ q, F46 q → B8 q ∨ w5.heap.size ≤ q := fun q hq => by rcases hfr48 q hq with h | h; exact rbG q h; exact .inr (by omega)
  have dis71 : ∀ q, F46 q → ¬ X q := fun q h1 h2 => by rcases hfr48 q h1 with h | h; exact hpr.dGX q h h2; (have h4 := ltX q h2; omega)
  have dis72 : ∀ q, F46 q → ¬ Y q := fun q h1 h2 => by rcases hfr48 q h1 with h | h; exact hpr.dGY q h h2; (have h4 := ltY q h2; omega)
  have dis73 : ∀ q, F46 q → ¬ Z q := fun q h1 h2 => by rcases hfr48 q h1 with h | h; exact hpr.dGZ q h h2; (have h4 := ltZ q h2; omega)
  have ltA39 := SlT.lt hA39
  have dis74 : ∀ q, inA A39 q → ¬ X q := fun q h1 h2 => by have h3 := ow39 q h1; have h4 := ltX q h2; omega
  have dis75 : ∀ q, inA A39 q → ¬ Y q := fun q h1 h2 => by have h3 := ow39 q h1; have h4 := ltY q h2; omega
  have dis76 : ∀ q, inA A39 q → ¬ Z q := fun q h1 h2 => by have h3 := ow39 q h1; have h4 := ltZ q h2; omega
  replace ho41 : Rfr F40 w37 r g actTs ((rkD 4 track ref).2.2).rs := ho41
  replace ho44 : VotT F43 w37 v (((rkD 4 track ref).2.2).s) := ho44
  replace ho47 : Led F46 w37 l ((rkD 4 track ref).2.2).xs ((rkD 4 track ref).2.2).cs := ho47
  refine Gp_ [(0, nt track), (2, nt ref), (7, pt b7), (8, pt b14), (9, nt 2), (52, .tuple #[.slice A39 (((doD actTs track 9 (CA.mk 4 0 ref none 0 []) rkQ).1).length) cap39, nt ((doD actTs track 9 (CA.mk 4 0 ref none 0 []) rkQ).2.1)])] ?_
  refine GI_eq [(0, nt track), (2, nt ref), (7, pt b7), (8, pt b14), (9, nt 2), (52, .tuple #[.slice A39 ((rkD 4 track ref).1.length) cap39, nt ((rkD 4 track ref).2.1)])] (by rfl) ?_
  refine Gn [] [0, 2, 7, 8, 9, 10, 11] ?_
  refine GI_end ?_
  refine X_then ?_
  refine Vr ?_
  refine On 3 [0, 2, 7, 8, 9, 10, 11, 58] ?_
  refine Oc 33 (.tmp 58) 2 (pt r) (some 59) hb rfl ?_
  refine On 5 [0, 2, 7, 8, 9, 10, 11, 59, 60] ?_
  refine Ok (kL 11 #[(.tmp 59), (.tmp 60)] #[33, 3]) 11 #[pt r, nt ref] (some 61) (rget_spec F40 r g actTs ((rkD 4 track ref).2.2).rs ref _ ho41) ?_
  rintro _ w79 ⟨rfl, hk80⟩
  refine ⟨_, rfl, ?_⟩
  have hsz81 := Keep.size hk80
  replace hb := hb.k0 hk80
  replace hb14_25 := hb14_25.k0 hk80
  replace hA39 := hA39.keep0 hk80
  replace hK0 := hK0.tn hk80
  replace hx := DLd.keep hx hk80 nk
  replace hy := DVt.keep hy hk80 nk
  replace hz := DRf.keep hz hk80 nk
  replace ho41 := ho41.keep hk80 nk
  replace ho44 := ho44.keep hk80 nk
  replace ho47 := ho47.keep hk80 nk
  refine On 9 [0, 2, 7, 8, 9, 10, 11, 62, 63] ?_
  refine OI_alloc 44 (.agg (Rfm.cells Rfm.zero).toArray) (Rfm.cells Rfm.zero) (some 12) (by kernel_rfl) (by kernel_rfl) (by kernel_rfl) ?_
  intro b82 w82 e82 hb82 k82 z82
  have hsz83 := Keep.size k82
  replace hb := hb.k0 k82
  replace hb14_25 := hb14_25.k0 k82
  replace hA39 := hA39.keep0 k82
  replace hK0 := hK0.tn k82
  replace hx := DLd.keep hx k82 nk
  replace hy := DVt.keep hy k82 nk
  replace hz := DRf.keep hz k82 nk
  replace ho41 := ho41.keep k82 nk
  replace ho44 := ho44.keep k82 nk
  replace ho47 := ho47.keep k82 nk
  have hb82lt := hb82.lt
  refine Otg 44 (.tmp 12) (.tmp 62) 0 (Rfm.cells (getA ((rkD 4 track ref).2.2).rs ref)) hb82 (Rfm.len _) (Rfm.one _) ?_
  intro w84 hb82_87 hk85 hz86
  replace hb82_87 : Blk w84 b82 (Rfm.cells (getA ((rkD 4 track ref).2.2).rs ref)) 44 := (Blk.eqL (Rfm.over _ _) hb82_87)
  have hsz88 := Keep.size hk85
  replace hb := hb.k1 hk85
  replace hb14_25 := hb14_25.k1 hk85
  replace hA39 := hA39.keep hk85 (fun q hq hs => by have hs : q = b82 := hs; have g0 := ow39 q hq; have g1 := ltA39 q hq; omega)
  replace hK0 := Keep.fr hK0 hk85
  replace hx := DLd.keep hx hk85 (fun q hq hs => by have hs : q = b82 := hs; have g0 := owX q hq; have g1 := ltX q hq; omega)
  replace hy := DVt.keep hy hk85 (fun q hq hs => by have hs : q = b82 := hs; have g0 := owY q hq; have g1 := ltY q hq; omega)
  replace hz := DRf.keep hz hk85 (fun q hq hs => by have hs : q = b82 := hs; have g0 := owZ q hq; have g1 := ltZ q hq; omega)
  replace ho41 := ho41.keep hk85 (fun q hq hs => by have hs : q = b82 := hs; have g0 := own57 q hq; have g1 := lt56 q hq; omega)
  replace ho44 := ho44.keep hk85 (fun q hq hs => by have hs : q = b82 := hs; have g0 := own63 q hq; have g1 := lt62 q hq; omega)
  replace ho47 := ho47.keep hk85 (fun q hq hs => by have hs : q = b82 := hs; have g0 := own69 q hq; have g1 := lt68 q hq; omega)
  refine On 12 [0, 2, 7, 8, 9, 10, 11, 12, 13] ?_
  refine Oe ?_
  refine V_seq ?_
  refine Vs [(0, nt track), (2, nt ref), (7, pt b7), (8, pt b14), (10, .slice A39 ((rkD 4 track ref).1.length) cap39), (11, nt ((rkD 4 track ref).2.1)), (12, pt b82), (13, .bool ((getR ((rkD 4 track ref).2.2).rs ref).isSome)), (66, .bool (decide (track < 2)))] ?_
  refine V_if (track < 2) (by kernel_rfl) (fun hc89 => ?_) (fun hc89 => ?_)
  ·
   refine Vr ?_
   refine Os 3 [(10, .slice A39 ((rkD 4 track ref).1.length) cap39), (12, pt b82), (13, .bool ((getR ((rkD 4 track ref).2.2).rs ref).isSome)), (69, .bool (decide ((rkD 4 track ref).2.1 = 8)))] ?_
   refine Oq (u := .bool (decide ((rkD 4 track ref).2.1 = 8))) (v := .bool true) 69 (by rw [decide_eq_true (show ((rkD 4 track ref).2.1 = 8) from (rk1 (by omega)).1)]) ?_
   refine Os 8 [(12, pt b82), (13, .bool ((getR ((rkD 4 track ref).2.2).rs ref).isSome)), (74, .bool (decide ((((rkD 4 track ref).1.length : Nat) : Int) = 0)))] ?_
   refine Oq (u := .bool (decide ((((rkD 4 track ref).1.length : Nat) : Int) = 0))) (v := .bool true) 74 (by rw [decide_eq_true (show ((((rkD 4 track ref).1.length : Nat) : Int) = 0) from (by have h9 := (rk1 (by omega)).2.1; omega))]) ?_
   refine Os 11 [(12, pt b82), (74, .bool true), (77, .bool (!((getR ((rkD 4 track ref).2.2).rs ref).isSome)))] ?_
   cases hg92 : (!((getR ((rkD 4 track ref).2.2).rs ref).isSome))
   ·
    refine OI_eq [(12, pt b82), (74, .bool true), (77, .bool false)] (by first | rfl | rw [hg92]) ?_
    refine On 12 [74, 77, 78] ?_
    refine Oc 3 (.tmp 78) 0 (nt ((getA ((rkD 4 track ref).2.2).rs ref).state)) (some 79) hb82_87 rfl ?_
    refine Os 17 [(83, .bool (decide ((getA ((rkD 4 track ref).2.2).rs ref).state = 1)))] ?_
    refine Oq (u := .bool (decide ((getA ((rkD 4 track ref).2.2).rs ref).state = 1))) (v := .bool true) 83 (by rw [decide_eq_true (show ((getA ((rkD 4 track ref).2.2).rs ref).state = 1) from (rk1 (by omega)).2.2 (by simpa using hg92))]) ?_
    refine Ok (kL 12 #[] #[]) 12 #[] (some 84) (known_spec _) ?_
    rintro _ w96 ⟨rfl, hk97⟩
    refine ⟨_, rfl, ?_⟩
    have hsz98 := Keep.size hk97
    replace hb82_87 := hb82_87.k0 hk97
    replace hK0 := hK0.tn hk97
    replace hx := DLd.keep hx hk97 nk
    replace hy := DVt.keep hy hk97 nk
    replace hz := DRf.keep hz hk97 nk
    replace ho41 := ho41.keep hk97 nk
    replace ho44 := ho44.keep hk97 nk
    replace ho47 := ho47.keep hk97 nk
    refine Ose [(6, .bool true)] ?_
    refine V_ret ?_
    refine X_ret_then ?_
    exact X_return (.bool true) rfl ⟨rfl, hK0⟩
   refine OI_eq [(12, pt b82), (74, .bool true), (77, .bool true)] (by first | rfl | rw [hg92]) ?_
   refine On 17 [83] ?_
   refine Ok (kL 12 #[] #[]) 12 #[] (some 84) (known_spec _) ?_
   rintro _ w101 ⟨rfl, hk102⟩
   refine ⟨_, rfl, ?_⟩
   have hsz103 := Keep.size hk102
   replace hb82_87 := hb82_87.k0 hk102
   replace hK0 := hK0.tn hk102
   replace hx := DLd.keep hx hk102 nk
   replace hy := DVt.keep hy hk102 nk
   replace hz := DRf.keep hz hk102 nk
   replace ho41 := ho41.keep hk102 nk
   replace ho44 := ho44.keep hk102 nk
   replace ho47 := ho47.keep hk102 nk
   refine Ose [(6, .bool true)] ?_
   refine V_ret ?_
   refine X_ret_then ?_
   exact X_return (.bool true) rfl ⟨rfl, hK0⟩
  refine V_skip ?_
  refine X_then ?_
  refine V_seq ?_
  refine Vs [(0, nt track), (7, pt b7), (8, pt b14), (10, .slice A39 ((rkD 4 track ref).1.length) cap39), (11, nt ((rkD 4 track ref).2.1)), (12, pt b82), (87, .bool (decide (ref > 2)))] ?_
  refine V_if (ref > 2) (by kernel_rfl) (fun hc104 => ?_) (fun hc104 => ?_)
  ·
   refine Vr ?_
   refine Os 3 [(10, .slice A39 ((rkD 4 track ref).1.length) cap39), (90, .bool (decide ((rkD 4 track ref).2.1 = 4)))] ?_
   refine Oq (u := .bool (decide ((rkD 4 track ref).2.1 = 4))) (v := .bool true) 90 (by rw [decide_eq_true (show ((rkD 4 track ref).2.1 = 4) from (rk2 (by omega) (by omega)).1)]) ?_
   refine Os 8 [(95, .bool (decide ((((rkD 4 track ref).1.length : Nat) : Int) = 0)))] ?_
   refine Oq (u := .bool (decide ((((rkD 4 track ref).1.length : Nat) : Int) = 0))) (v := .bool true) 95 (by rw [decide_eq_true (show ((((rkD 4 track ref).1.length : Nat) : Int) = 0) from (by have h9 := (rk2 (by omega) (by omega)).2; omega))]) ?_
   refine Ok (kL 12 #[] #[]) 12 #[] (some 96) (known_spec _) ?_
   rintro _ w109 ⟨rfl, hk110⟩
   refine ⟨_, rfl, ?_⟩
   have hsz111 := Keep.size hk110
   replace hb82_87 := hb82_87.k0 hk110
   replace hK0 := hK0.tn hk110
   replace hx := DLd.keep hx hk110 nk
   replace hy := DVt.keep hy hk110 nk
   replace hz := DRf.keep hz hk110 nk
   replace ho41 := ho41.keep hk110 nk
   replace ho44 := ho44.keep hk110 nk
   replace ho47 := ho47.keep hk110 nk
   refine Ose [(6, .bool true)] ?_
   refine V_ret ?_
   refine X_ret_then ?_
   exact X_return (.bool true) rfl ⟨rfl, hK0⟩
  refine V_skip ?_
  refine X_then ?_
  refine V_seq ?_
  refine V_draws (acts [14]) (fun q => q ≠ b7 ∧ q ≠ b14 ∧ q ≠ b82) [[0, 1, 2, 3, 4, 5, 6, 7, 8, 9, 10, 11, 12, 13, 14, 15, 16, 17, 18, 19]] (by kernel_rfl) (by repeat first | exact (by first | exact sure_body (by rintro _ _ ⟨_, _, h, _⟩; exact ⟨_, h⟩) | exact sure_body (by rintro _ _ ⟨_, _, _, _, _, _, _, _, _, _, _, h, _⟩; exact ⟨_, h⟩) | exact sure_body (by rintro _ _ ⟨h, _⟩; exact ⟨_, h⟩)) | refine sure_then ?_ | refine sure_block ?_ | refine sure_join ?_) (by kernel_rfl) ?_
  intro w113 hk112 he114 L hL115
  have hsz116 := Keep.size hk112
  replace hb := hb.k0 hk112
  replace hb14_25 := hb14_25.k0 hk112
  replace hb82_87 := hb82_87.k0 hk112
  replace hA39 := hA39.keep0 hk112
  replace hK0 := hK0.tn hk112
  replace hx := DLd.keep hx hk112 nk
  replace hy := DVt.keep hy hk112 nk
  replace hz := DRf.keep hz hk112 nk
  replace ho41 := ho41.keep hk112 nk
  replace ho44 := ho44.keep hk112 nk
  replace ho47 := ho47.keep hk112 nk
  have qhb := hb
  have qhb14_25 := hb14_25
  have qhb82_87 := hb82_87
  have qhA39 := hA39
  have K117 : Keep (fun q => q ≠ b7 ∧ q ≠ b14 ∧ q ≠ b82) w113 w113 := Keep.refl _ _
  obtain rfl := List.mem_singleton.1 hL115
  refine Gn [3, 4, 5, 6, 7, 8, 9, 10, 11, 12, 13, 14, 15, 16, 17, 18, 19] [0, 7, 8, 10, 11, 12, 101] ?_
  refine Gc 31 (.tmp 101) 0 (pt l) (some 102) qhb (by show ¬ (b7 ≠ b7 ∧ b7 ≠ b14 ∧ b7 ≠ b82); omega) rfl ?_
  refine Gn [7, 8, 9, 10, 11, 12, 13, 14, 15, 16, 17, 18, 19] [0, 7, 8, 10, 11, 12, 102, 105] ?_
  refine Gc 32 (.tmp 105) 1 (pt v) (some 106) qhb (by show ¬ (b7 ≠ b7 ∧ b7 ≠ b14 ∧ b7 ≠ b82); omega) rfl ?_
  refine Gn [11, 12, 13, 14, 15, 16, 17, 18, 19] [0, 8, 10, 11, 12, 102, 106, 109] ?_
  refine Gc 33 (.tmp 109) 2 (pt r) (some 110) qhb (by show ¬ (b7 ≠ b7 ∧ b7 ≠ b14 ∧ b7 ≠ b82); omega) rfl ?_
  refine Ga 26 (.tmp 8) 0 [nt 4, nt 0, nt ref, .slice none 0 0] (some 111) 4 qhb14_25 (by show ¬ (b14 ≠ b7 ∧ b14 ≠ b14 ∧ b14 ≠ b82); omega) rfl rfl ?_
  refine Gn [14, 15, 16, 17, 18, 19] [10, 11, 12, 102, 106, 110, 111, 112] ?_
  refine Gk0 (kL 10 #[(.tmp 102), (.tmp 106), (.tmp 110), (.tmp 111), (.tmp 112), (.const (nt 9))] #[31, 32, 33, 26, 3, 3]) 10 #[pt l, pt v, pt r, .agg #[nt 4, nt 0, nt ref, .slice none 0 0], nt track, nt 9] (some 113) (do_spec none_ (CA.mk 4 0 ref none 0 []) r g actTs v l track 9 F40 F43 F46 ((rkD 4 track ref).2.2) _ (RepIn.none (fun q h => (inA_none h).elim)) ho41 ho44 ho47 hdis49 hdis50 hdis51 (fun q h => h.elim)) ?_
  rintro _ w122 ⟨A124, cap124, rfl, hA124, ow124, ⟨F125, F128, F131, ho126, ho129, ho132, hfr127, hfr130, hfr133, hdis134, hdis135, hdis136, dA137, dA138, dA139⟩, hk123⟩
  refine ⟨_, rfl, ?_⟩
  have hsz140 := Keep.size hk123
  replace hb82_87 := hb82_87.keep hk123 (fun hs => by rcases hs with hs | hs | hs; (have u9 : _ = g := hs; have u0 := own57 _ (Rfr.atg ho41); have u1 := lt56 _ (Rfr.atg ho41); omega); (have u0 := own63 _ hs; have u1 := lt62 _ hs; omega); (have u0 := own69 _ hs; have u1 := lt68 _ hs; omega))
  replace hA39 := hA39.keep hk123 (fun q hq hs => by rcases hs with hs | hs | hs; exact dA52 q hq (by rw [show q = g from hs]; exact (Rfr.atg ho41)); exact dA53 q hq hs; exact dA54 q hq hs)
  replace hK0 := Keep.fresh hK0 hk123 (by intro i hi hs; first | exact hs | (rcases hs with hs | hs | hs; (have u9 : _ = g := hs; have u0 := own57 _ (Rfr.atg ho41); have u1 := lt56 _ (Rfr.atg ho41); omega); (have u0 := own63 i hs; have u1 := lt62 i hs; omega); (have u0 := own69 i hs; have u1 := lt68 i hs; omega)))
  replace hx := DLd.keep hx hk123 (fun q hq hs => by rcases hs with hs | hs | hs; exact (fun q h1 h2 => dis59 q h2 h1) q hq (by rw [show q = g from hs]; exact (Rfr.atg ho41)); exact (fun q h1 h2 => dis65 q h2 h1) q hq hs; exact (fun q h1 h2 => dis71 q h2 h1) q hq hs)
  replace hy := DVt.keep hy hk123 (fun q hq hs => by rcases hs with hs | hs | hs; exact (fun q h1 h2 => dis60 q h2 h1) q hq (by rw [show q = g from hs]; exact (Rfr.atg ho41)); exact (fun q h1 h2 => dis66 q h2 h1) q hq hs; exact (fun q h1 h2 => dis72 q h2 h1) q hq hs)
  replace hz := DRf.keep hz hk123 (fun q hq hs => by rcases hs with hs | hs | hs; exact (fun q h1 h2 => dis61 q h2 h1) q hq (by rw [show q = g from hs]; exact (Rfr.atg ho41)); exact (fun q h1 h2 => dis67 q h2 h1) q hq hs; exact (fun q h1 h2 => dis73 q h2 h1) q hq hs)
  have own142 : ∀ q, F125 q → w.heap.size ≤ q ∧ q ≠ b82 := fun q hq => by rcases hfr127 q hq with h | h; (have h1 := own57 q h; have h2 := lt56 q h; omega); omega
  have lt141 := Rfr.lt ho126
  have rel143 : ∀ q, F125 q → B8 q ∨ w5.heap.size ≤ q := fun q hq => by rcases hfr127 q hq with h | h; exact rel58 q h; exact .inr (by omega)
  have dis144 : ∀ q, F125 q → ¬ inA A39 q := fun q h1 h2 => by rcases hfr127 q h1 with h | h; exact (fun q h1 h2 => dA52 q h2 h1) q h h2; (have h4 := ltA39 q h2; omega)
  have dis145 : ∀ q, F125 q → ¬ X q := fun q h1 h2 => by rcases hfr127 q h1 with h | h; exact dis59 q h h2; (have h4 := ltX q h2; omega)
  have dis146 : ∀ q, F125 q → ¬ Y q := fun q h1 h2 => by rcases hfr127 q h1 with h | h; exact dis60 q h h2; (have h4 := ltY q h2; omega)
  have dis147 : ∀ q, F125 q → ¬ Z q := fun q h1 h2 => by rcases hfr127 q h1 with h | h; exact dis61 q h h2; (have h4 := ltZ q h2; omega)
  have own149 : ∀ q, F128 q → w.heap.size ≤ q ∧ q ≠ b82 := fun q hq => by rcases hfr130 q hq with h | h; (have h1 := own63 q h; have h2 := lt62 q h; omega); omega
  have lt148 := VotT.lt ho129
  have rel150 : ∀ q, F128 q → B8 q ∨ w5.heap.size ≤ q := fun q hq => by rcases hfr130 q hq with h | h; exact rel64 q h; exact .inr (by omega)
  have dis151 : ∀ q, F128 q → ¬ inA A39 q := fun q h1 h2 => by rcases hfr130 q h1 with h | h; exact (fun q h1 h2 => dA53 q h2 h1) q h h2; (have h4 := ltA39 q h2; omega)
  have dis152 : ∀ q, F128 q → ¬ X q := fun q h1 h2 => by rcases hfr130 q h1 with h | h; exact dis65 q h h2; (have h4 := ltX q h2; omega)
  have dis153 : ∀ q, F128 q → ¬ Y q := fun q h1 h2 => by rcases hfr130 q h1 with h | h; exact dis66 q h h2; (have h4 := ltY q h2; omega)
  have dis154 : ∀ q, F128 q → ¬ Z q := fun q h1 h2 => by rcases hfr130 q h1 with h | h; exact dis67 q h h2; (have h4 := ltZ q h2; omega)
  have own156 : ∀ q, F131 q → w.heap.size ≤ q ∧ q ≠ b82 := fun q hq => by rcases hfr133 q hq with h | h; (have h1 := own69 q h; have h2 := lt68 q h; omega); omega
  have lt155 := Led.lt ho132
  have rel157 : ∀ q, F131 q → B8 q ∨ w5.heap.size ≤ q := fun q hq => by rcases hfr133 q hq with h | h; exact rel70 q h; exact .inr (by omega)
  have dis158 : ∀ q, F131 q → ¬ inA A39 q := fun q h1 h2 => by rcases hfr133 q h1 with h | h; exact (fun q h1 h2 => dA54 q h2 h1) q h h2; (have h4 := ltA39 q h2; omega)
  have dis159 : ∀ q, F131 q → ¬ X q := fun q h1 h2 => by rcases hfr133 q h1 with h | h; exact dis71 q h h2; (have h4 := ltX q h2; omega)
  have dis160 : ∀ q, F131 q → ¬ Y q := fun q h1 h2 => by rcases hfr133 q h1 with h | h; exact dis72 q h h2; (have h4 := ltY q h2; omega)
  have dis161 : ∀ q, F131 q → ¬ Z q := fun q h1 h2 => by rcases hfr133 q h1 with h | h; exact dis73 q h h2; (have h4 := ltZ q h2; omega)
  have ltA124 := SlT.lt hA124
  have dis162 : ∀ q, inA A124 q → ¬ X q := fun q h1 h2 => by have h3 := ow124 q h1; have h4 := ltX q h2; omega
  have dis163 : ∀ q, inA A124 q → ¬ Y q := fun q h1 h2 => by have h3 := ow124 q h1; have h4 := ltY q h2; omega
  have dis164 : ∀ q, inA A124 q → ¬ Z q := fun q h1 h2 => by have h3 := ow124 q h1; have h4 := ltZ q h2; omega
  replace ho126 : Rfr F125 w122 r g actTs ((doD actTs track 9 (CA.mk 4 0 ref none 0 []) ((rkD 4 track ref).2.2)).2.2).rs := ho126
  replace ho129 : VotT F128 w122 v (((doD actTs track 9 (CA.mk 4 0 ref none 0 []) ((rkD 4 track ref).2.2)).2.2).s) := ho129
  replace ho132 : Led F131 w122 l ((doD actTs track 9 (CA.mk 4 0 ref none 0 []) ((rkD 4 track ref).2.2)).2.2).xs ((doD actTs track 9 (CA.mk 4 0 ref none 0 []) ((rkD 4 track ref).2.2)).2.2).cs := ho132
  refine Gp_ [(10, .slice A39 ((rkD 4 track ref).1.length) cap39), (11, nt ((rkD 4 track ref).2.1)), (12, pt b82), (113, .tuple #[.slice A124 (((doD actTs track 9 (CA.mk 4 0 ref none 0 []) ((rkD 4 track ref).2.2)).1).length) cap124, nt ((doD actTs track 9 (CA.mk 4 0 ref none 0 []) ((rkD 4 track ref).2.2)).2.1)])] ?_
  refine GI_eq [(10, .slice A39 ((rkD 4 track ref).1.length) cap39), (11, nt ((rkD 4 track ref).2.1)), (12, pt b82), (113, .tuple #[.slice A124 (((doD actTs track 9 (CA.mk 4 0 ref none 0 []) ((rkD 4 track ref).2.2)).1).length) cap124, nt (rkE 4 track ref)])] (by rfl) ?_
  refine Gn [] [10, 11, 12, 15] ?_
  refine GI_end ?_
  refine X_then ?_
  refine Vr ?_
  refine Os 3 [(10, .slice A39 ((rkD 4 track ref).1.length) cap39), (12, pt b82), (15, nt (rkE 4 track ref)), (118, .bool (decide ((rkD 4 track ref).2.1 = 0)))] ?_
  refine Oq (u := .bool (decide ((rkD 4 track ref).2.1 = 0))) (v := .bool true) 118 (by rw [decide_eq_true (show ((rkD 4 track ref).2.1 = 0) from (rk3 (by omega) (by omega)).1)]) ?_
  refine Os 8 [(12, pt b82), (15, nt (rkE 4 track ref)), (123, .bool (decide ((((rkD 4 track ref).1.length : Nat) : Int) ≥ 1)))] ?_
  refine Oq (u := .bool (decide ((((rkD 4 track ref).1.length : Nat) : Int) ≥ 1))) (v := .bool true) 123 (by rw [decide_eq_true (show ((((rkD 4 track ref).1.length : Nat) : Int) ≥ 1) from (by have h9 := (rk3 (by omega) (by omega)).2.1; omega))]) ?_
  refine On 9 [12, 15, 123, 124] ?_
  refine Oc 3 (.tmp 124) 0 (nt ((getA ((rkD 4 track ref).2.2).rs ref).state)) (some 125) hb82_87 rfl ?_
  refine Os 13 [(12, pt b82), (15, nt (rkE 4 track ref)), (128, .bool (!(decide ((getA ((rkD 4 track ref).2.2).rs ref).state = 1))))] ?_
  refine Oq (u := .bool (!(decide ((getA ((rkD 4 track ref).2.2).rs ref).state = 1)))) (v := .bool true) 128 (by rw [decide_eq_false (show ¬ ((getA ((rkD 4 track ref).2.2).rs ref).state = 1) from (rk3 (by omega) (by omega)).2.2.1)]; rfl) ?_
  refine On 14 [15, 128, 129] ?_
  refine Oc 3 (.tmp 129) 41 (nt ((getA ((rkD 4 track ref).2.2).rs ref).stop)) (some 130) hb82_87 rfl ?_
  refine Os 18 [(15, nt (rkE 4 track ref)), (133, .bool (decide ((getA ((rkD 4 track ref).2.2).rs ref).stop = 9)))] ?_
  refine Oq (u := .bool (decide ((getA ((rkD 4 track ref).2.2).rs ref).stop = 9))) (v := .bool true) 133 (by rw [decide_eq_true (show ((getA ((rkD 4 track ref).2.2).rs ref).stop = 9) from (rk3 (by omega) (by omega)).2.2.2.1)]) ?_
  refine Os 22 [(137, .bool (decide (rkE 4 track ref = 9)))] ?_
  refine Oq (u := .bool (decide (rkE 4 track ref = 9))) (v := .bool true) 137 (by rw [decide_eq_true (show (rkE 4 track ref = 9) from (rk3 (by omega) (by omega)).2.2.2.2)]) ?_
  refine Ok (kL 12 #[] #[]) 12 #[] (some 138) (known_spec _) ?_
  rintro _ w172 ⟨rfl, hk173⟩
  refine ⟨_, rfl, ?_⟩
  have hsz174 := Keep.size hk173
  replace hb82_87 := hb82_87.k0 hk173
  replace hK0 := hK0.tn hk173
  replace hx := DLd.keep hx hk173 nk
  replace hy := DVt.keep hy hk173 nk
  replace hz := DRf.keep hz hk173 nk
  replace ho126 := ho126.keep hk173 nk
  replace ho129 := ho129.keep hk173 nk
  replace ho132 := ho132.keep hk173 nk
  refine Ose [(6, .bool true)] ?_
  refine V_ret ?_
  exact X_return (.bool true) rfl ⟨rfl, hK0⟩
 refine V_skip ?_
 refine X_then ?_
 refine V_seq ?_
 refine V_draws (acts [14]) (fun q => q ≠ b7 ∧ q ≠ b14) [[0, 1, 2, 3, 4, 5, 6, 7, 8, 9, 10, 11, 12, 13, 14, 15, 16, 17, 18, 19]] (by kernel_rfl) (by repeat first | exact (by first | exact sure_body (by rintro _ _ ⟨_, _, h, _⟩; exact ⟨_, h⟩) | exact sure_body (by rintro _ _ ⟨_, _, _, _, _, _, _, _, _, _, _, h, _⟩; exact ⟨_, h⟩) | exact sure_body (by rintro _ _ ⟨h, _⟩; exact ⟨_, h⟩)) | refine sure_then ?_ | refine sure_block ?_ | refine sure_join ?_) (by kernel_rfl) ?_
 intro w176 hk175 he177 L hL178
 have hsz179 := Keep.size hk175
 replace hb := hb.k0 hk175
 replace hb14_19 := hb14_19.k0 hk175
 replace hK0 := hK0.tn hk175
 replace hr := hr.keep hk175 nk
 replace hv := hv.keep hk175 nk
 replace hl := hl.keep hk175 nk
 replace hx := DLd.keep hx hk175 nk
 replace hy := DVt.keep hy hk175 nk
 replace hz := DRf.keep hz hk175 nk
 have qhb := hb
 have qhb14_19 := hb14_19
 have K180 : Keep (fun q => q ≠ b7 ∧ q ≠ b14) w176 w176 := Keep.refl _ _
 obtain rfl := List.mem_singleton.1 hL178
 refine Gn [3, 4, 5, 6, 7, 8, 9, 10, 11, 12, 13, 14, 15, 16, 17, 18, 19] [0, 2, 7, 8, 9, 40] ?_
 refine Gc 31 (.tmp 40) 0 (pt l) (some 41) qhb (by show ¬ (b7 ≠ b7 ∧ b7 ≠ b14); omega) rfl ?_
 refine Gn [7, 8, 9, 10, 11, 12, 13, 14, 15, 16, 17, 18, 19] [0, 2, 7, 8, 9, 41, 44] ?_
 refine Gc 32 (.tmp 44) 1 (pt v) (some 45) qhb (by show ¬ (b7 ≠ b7 ∧ b7 ≠ b14); omega) rfl ?_
 refine Gn [11, 12, 13, 14, 15, 16, 17, 18, 19] [0, 2, 7, 8, 9, 41, 45, 48] ?_
 refine Gc 33 (.tmp 48) 2 (pt r) (some 49) qhb (by show ¬ (b7 ≠ b7 ∧ b7 ≠ b14); omega) rfl ?_
 refine Ga 26 (.tmp 8) 0 [nt 3, nt 0, nt ref, .slice none 0 0] (some 50) 4 qhb14_19 (by show ¬ (b14 ≠ b7 ∧ b14 ≠ b14); omega) rfl rfl ?_
 refine Gn [14, 15, 16, 17, 18, 19] [0, 2, 7, 8, 9, 41, 45, 49, 50, 51] ?_
 obtain ⟨rk1, rk2, rk3⟩ := rk_at (k := 0) (K := 3) (t := track) (r := ref) (by omega) (by decide) (by omega) (by omega)
 refine Gk0 (kL 10 #[(.tmp 41), (.tmp 45), (.tmp 49), (.tmp 50), (.tmp 51), (.const (nt 9))] #[31, 32, 33, 26, 3, 3]) 10 #[pt l, pt v, pt r, .agg #[nt 3, nt 0, nt ref, .slice none 0 0], nt track, nt 9] (some 52) (do_spec none_ (CA.mk 3 0 ref none 0 []) r g actTs v l track 9 H F G rkQ _ (RepIn.none (fun q h => (inA_none h).elim)) hr hv hl hpr.dHF hpr.dHG hpr.dFG (fun q h => h.elim)) ?_
 rintro _ w185 ⟨A187, cap187, rfl, hA187, ow187, ⟨F188, F191, F194, ho189, ho192, ho195, hfr190, hfr193, hfr196, hdis197, hdis198, hdis199, dA200, dA201, dA202⟩, hk186⟩
 refine ⟨_, rfl, ?_⟩
 have hsz203 := Keep.size hk186
 replace hb := hb.keep hk186 (fun hs => by rcases hs with hs | hs | hs; (have u9 : _ = g := hs; have u0 := owH _ (Rfr.atg hr); have u1 := ltH _ (Rfr.atg hr); omega); (have u0 := owF _ hs; have u1 := ltF _ hs; omega); (have u0 := owG _ hs; have u1 := ltG _ hs; omega))
 replace hb14_19 := hb14_19.keep hk186 (fun hs => by rcases hs with hs | hs | hs; (have u9 : _ = g := hs; have u0 := owH _ (Rfr.atg hr); have u1 := ltH _ (Rfr.atg hr); omega); (have u0 := owF _ hs; have u1 := ltF _ hs; omega); (have u0 := owG _ hs; have u1 := ltG _ hs; omega))
 replace hK0 := Keep.fresh hK0 hk186 (by intro i hi hs; first | exact hs | (rcases hs with hs | hs | hs; (have u9 : _ = g := hs; have u0 := owH _ (Rfr.atg hr); have u1 := ltH _ (Rfr.atg hr); omega); (have u0 := owF i hs; have u1 := ltF i hs; omega); (have u0 := owG i hs; have u1 := ltG i hs; omega)))
 replace hx := DLd.keep hx hk186 (fun q hq hs => by rcases hs with hs | hs | hs; exact (fun q h1 h2 => hpr.dHX q h2 h1) q hq (by rw [show q = g from hs]; exact (Rfr.atg hr)); exact (fun q h1 h2 => hpr.dFX q h2 h1) q hq hs; exact (fun q h1 h2 => hpr.dGX q h2 h1) q hq hs)
 replace hy := DVt.keep hy hk186 (fun q hq hs => by rcases hs with hs | hs | hs; exact (fun q h1 h2 => hpr.dHY q h2 h1) q hq (by rw [show q = g from hs]; exact (Rfr.atg hr)); exact (fun q h1 h2 => hpr.dFY q h2 h1) q hq hs; exact (fun q h1 h2 => hpr.dGY q h2 h1) q hq hs)
 replace hz := DRf.keep hz hk186 (fun q hq hs => by rcases hs with hs | hs | hs; exact (fun q h1 h2 => hpr.dHZ q h2 h1) q hq (by rw [show q = g from hs]; exact (Rfr.atg hr)); exact (fun q h1 h2 => hpr.dFZ q h2 h1) q hq hs; exact (fun q h1 h2 => hpr.dGZ q h2 h1) q hq hs)
 have own205 : ∀ q, F188 q → w.heap.size ≤ q ∧ q ≠ b7 ∧ q ≠ b14 := fun q hq => by rcases hfr190 q hq with h | h; (have h1 := owH q h; have h2 := ltH q h; omega); omega
 have lt204 := Rfr.lt ho189
 have rel206 : ∀ q, F188 q → B8 q ∨ w5.heap.size ≤ q := fun q hq => by rcases hfr190 q hq with h | h; exact rbH q h; exact .inr (by omega)
 have dis207 : ∀ q, F188 q → ¬ X q := fun q h1 h2 => by rcases hfr190 q h1 with h | h; exact hpr.dHX q h h2; (have h4 := ltX q h2; omega)
 have dis208 : ∀ q, F188 q → ¬ Y q := fun q h1 h2 => by rcases hfr190 q h1 with h | h; exact hpr.dHY q h h2; (have h4 := ltY q h2; omega)
 have dis209 : ∀ q, F188 q → ¬ Z q := fun q h1 h2 => by rcases hfr190 q h1 with h | h; exact hpr.dHZ q h h2; (have h4 := ltZ q h2; omega)
 have own211 : ∀ q, F191 q → w.heap.size ≤ q ∧ q ≠ b7 ∧ q ≠ b14 := fun q hq => by rcases hfr193 q hq with h | h; (have h1 := owF q h; have h2 := ltF q h; omega); omega
 have lt210 := VotT.lt ho192
 have rel212 : ∀ q, F191 q → B8 q ∨ w5.heap.size ≤ q := fun q hq => by rcases hfr193 q hq with h | h; exact rbF q h; exact .inr (by omega)
 have dis213 : ∀ q, F191 q → ¬ X q := fun q h1 h2 => by rcases hfr193 q h1 with h | h; exact hpr.dFX q h h2; (have h4 := ltX q h2; omega)
 have dis214 : ∀ q, F191 q → ¬ Y q := fun q h1 h2 => by rcases hfr193 q h1 with h | h; exact hpr.dFY q h h2; (have h4 := ltY q h2; omega)
 have dis215 : ∀ q, F191 q → ¬ Z q := fun q h1 h2 => by rcases hfr193 q h1 with h | h; exact hpr.dFZ q h h2; (have h4 := ltZ q h2; omega)
 have own217 : ∀ q, F194 q → w.heap.size ≤ q ∧ q ≠ b7 ∧ q ≠ b14 := fun q hq => by rcases hfr196 q hq with h | h; (have h1 := owG q h; have h2 := ltG q h; omega); omega
 have lt216 := Led.lt ho195
 have rel218 : ∀ q, F194 q → B8 q ∨ w5.heap.size ≤ q := fun q hq => by rcases hfr196 q hq with h | h; exact rbG q h; exact .inr (by omega)
 have dis219 : ∀ q, F194 q → ¬ X q := fun q h1 h2 => by rcases hfr196 q h1 with h | h; exact hpr.dGX q h h2; (have h4 := ltX q h2; omega)
 have dis220 : ∀ q, F194 q → ¬ Y q := fun q h1 h2 => by rcases hfr196 q h1 with h | h; exact hpr.dGY q h h2; (have h4 := ltY q h2; omega)
 have dis221 : ∀ q, F194 q → ¬ Z q := fun q h1 h2 => by rcases hfr196 q h1 with h | h; exact hpr.dGZ q h h2; (have h4 := ltZ q h2; omega)
 have ltA187 := SlT.lt hA187
 have dis222 : ∀ q, inA A187 q → ¬ X q := fun q h1 h2 => by have h3 := ow187 q h1; have h4 := ltX q h2; omega
 have dis223 : ∀ q, inA A187 q → ¬ Y q := fun q h1 h2 => by have h3 := ow187 q h1; have h4 := ltY q h2; omega
 have dis224 : ∀ q, inA A187 q → ¬ Z q := fun q h1 h2 => by have h3 := ow187 q h1; have h4 := ltZ q h2; omega
 replace ho189 : Rfr F188 w185 r g actTs ((rkD 3 track ref).2.2).rs := ho189
 replace ho192 : VotT F191 w185 v (((rkD 3 track ref).2.2).s) := ho192
 replace ho195 : Led F194 w185 l ((rkD 3 track ref).2.2).xs ((rkD 3 track ref).2.2).cs := ho195
 refine Gp_ [(0, nt track), (2, nt ref), (7, pt b7), (8, pt b14), (9, nt 1), (52, .tuple #[.slice A187 (((doD actTs track 9 (CA.mk 3 0 ref none 0 []) rkQ).1).length) cap187, nt ((doD actTs track 9 (CA.mk 3 0 ref none 0 []) rkQ).2.1)])] ?_
 refine GI_eq [(0, nt track), (2, nt ref), (7, pt b7), (8, pt b14), (9, nt 1), (52, .tuple #[.slice A187 ((rkD 3 track ref).1.length) cap187, nt ((rkD 3 track ref).2.1)])] (by rfl) ?_
 refine Gn [] [0, 2, 7, 8, 9, 10, 11] ?_
 refine GI_end ?_
 refine X_then ?_
 refine Vr ?_
 refine On 3 [0, 2, 7, 8, 9, 10, 11, 58] ?_
 refine Oc 33 (.tmp 58) 2 (pt r) (some 59) hb rfl ?_
 refine On 5 [0, 2, 7, 8, 9, 10, 11, 59, 60] ?_
 refine Ok (kL 11 #[(.tmp 59), (.tmp 60)] #[33, 3]) 11 #[pt r, nt ref] (some 61) (rget_spec F188 r g actTs ((rkD 3 track ref).2.2).rs ref _ ho189) ?_
 rintro _ w227 ⟨rfl, hk228⟩
 refine ⟨_, rfl, ?_⟩
 have hsz229 := Keep.size hk228
 replace hb := hb.k0 hk228
 replace hb14_19 := hb14_19.k0 hk228
 replace hA187 := hA187.keep0 hk228
 replace hK0 := hK0.tn hk228
 replace hx := DLd.keep hx hk228 nk
 replace hy := DVt.keep hy hk228 nk
 replace hz := DRf.keep hz hk228 nk
 replace ho189 := ho189.keep hk228 nk
 replace ho192 := ho192.keep hk228 nk
 replace ho195 := ho195.keep hk228 nk
 refine On 9 [0, 2, 7, 8, 9, 10, 11, 62, 63] ?_
 refine OI_alloc 44 (.agg (Rfm.cells Rfm.zero).toArray) (Rfm.cells Rfm.zero) (some 12) (by kernel_rfl) (by kernel_rfl) (by kernel_rfl) ?_
 intro b230 w230 e230 hb230 k230 z230
 have hsz231 := Keep.size k230
 replace hb := hb.k0 k230
 replace hb14_19 := hb14_19.k0 k230
 replace hA187 := hA187.keep0 k230
 replace hK0 := hK0.tn k230
 replace hx := DLd.keep hx k230 nk
 replace hy := DVt.keep hy k230 nk
 replace hz := DRf.keep hz k230 nk
 replace ho189 := ho189.keep k230 nk
 replace ho192 := ho192.keep k230 nk
 replace ho195 := ho195.keep k230 nk
 have hb230lt := hb230.lt
 refine Otg 44 (.tmp 12) (.tmp 62) 0 (Rfm.cells (getA ((rkD 3 track ref).2.2).rs ref)) hb230 (Rfm.len _) (Rfm.one _) ?_
 intro w232 hb230_235 hk233 hz234
 replace hb230_235 : Blk w232 b230 (Rfm.cells (getA ((rkD 3 track ref).2.2).rs ref)) 44 := (Blk.eqL (Rfm.over _ _) hb230_235)
 have hsz236 := Keep.size hk233
 replace hb := hb.k1 hk233
 replace hb14_19 := hb14_19.k1 hk233
 replace hA187 := hA187.keep hk233 (fun q hq hs => by have hs : q = b230 := hs; have g0 := ow187 q hq; have g1 := ltA187 q hq; omega)
 replace hK0 := Keep.fr hK0 hk233
 replace hx := DLd.keep hx hk233 (fun q hq hs => by have hs : q = b230 := hs; have g0 := owX q hq; have g1 := ltX q hq; omega)
 replace hy := DVt.keep hy hk233 (fun q hq hs => by have hs : q = b230 := hs; have g0 := owY q hq; have g1 := ltY q hq; omega)
 replace hz := DRf.keep hz hk233 (fun q hq hs => by have hs : q = b230 := hs; have g0 := owZ q hq; have g1 := ltZ q hq; omega)
 replace ho189 := ho189.keep hk233 (fun q hq hs => by have hs : q = b230 := hs; have g0 := own205 q hq; have g1 := lt204 q hq; omega)
 replace ho192 := ho192.keep hk233 (fun q hq hs => by have hs : q = b230 := hs; have g0 := own211 q hq; have g1 := lt210 q hq; omega)
 replace ho195 := ho195.keep hk233 (fun q hq hs => by have hs : q = b230 := hs; have g0 := own217 q hq; have g1 := lt216 q hq; omega)
 refine On 12 [0, 2, 7, 8, 9, 10, 11, 12, 13] ?_
 refine Oe ?_
 refine V_seq ?_
 refine Vs [(0, nt track), (2, nt ref), (7, pt b7), (8, pt b14), (10, .slice A187 ((rkD 3 track ref).1.length) cap187), (11, nt ((rkD 3 track ref).2.1)), (12, pt b230), (13, .bool ((getR ((rkD 3 track ref).2.2).rs ref).isSome)), (66, .bool (decide (track < 1)))] ?_
 refine V_if (track < 1) (by kernel_rfl) (fun hc237 => ?_) (fun hc237 => ?_)
 ·
  refine Vr ?_
  refine Os 3 [(10, .slice A187 ((rkD 3 track ref).1.length) cap187), (12, pt b230), (13, .bool ((getR ((rkD 3 track ref).2.2).rs ref).isSome)), (69, .bool (decide ((rkD 3 track ref).2.1 = 8)))] ?_
  refine Oq (u := .bool (decide ((rkD 3 track ref).2.1 = 8))) (v := .bool true) 69 (by rw [decide_eq_true (show ((rkD 3 track ref).2.1 = 8) from (rk1 (by omega)).1)]) ?_
  refine Os 8 [(12, pt b230), (13, .bool ((getR ((rkD 3 track ref).2.2).rs ref).isSome)), (74, .bool (decide ((((rkD 3 track ref).1.length : Nat) : Int) = 0)))] ?_
  refine Oq (u := .bool (decide ((((rkD 3 track ref).1.length : Nat) : Int) = 0))) (v := .bool true) 74 (by rw [decide_eq_true (show ((((rkD 3 track ref).1.length : Nat) : Int) = 0) from (by have h9 := (rk1 (by omega)).2.1; omega))]) ?_
  refine Os 11 [(12, pt b230), (74, .bool true), (77, .bool (!((getR ((rkD 3 track ref).2.2).rs ref).isSome)))] ?_
  cases hg240 : (!((getR ((rkD 3 track ref).2.2).rs ref).isSome))
  ·
   refine OI_eq [(12, pt b230), (74, .bool true), (77, .bool false)] (by first | rfl | rw [hg240]) ?_
   refine On 12 [74, 77, 78] ?_
   refine Oc 3 (.tmp 78) 0 (nt ((getA ((rkD 3 track ref).2.2).rs ref).state)) (some 79) hb230_235 rfl ?_
   refine Os 17 [(83, .bool (decide ((getA ((rkD 3 track ref).2.2).rs ref).state = 1)))] ?_
   refine Oq (u := .bool (decide ((getA ((rkD 3 track ref).2.2).rs ref).state = 1))) (v := .bool true) 83 (by rw [decide_eq_true (show ((getA ((rkD 3 track ref).2.2).rs ref).state = 1) from (rk1 (by omega)).2.2 (by simpa using hg240))]) ?_
   refine Ok (kL 12 #[] #[]) 12 #[] (some 84) (known_spec _) ?_
   rintro _ w244 ⟨rfl, hk245⟩
   refine ⟨_, rfl, ?_⟩
   have hsz246 := Keep.size hk245
   replace hb230_235 := hb230_235.k0 hk245
   replace hK0 := hK0.tn hk245
   replace hx := DLd.keep hx hk245 nk
   replace hy := DVt.keep hy hk245 nk
   replace hz := DRf.keep hz hk245 nk
   replace ho189 := ho189.keep hk245 nk
   replace ho192 := ho192.keep hk245 nk
   replace ho195 := ho195.keep hk245 nk
   refine Ose [(6, .bool true)] ?_
   refine V_ret ?_
   refine X_ret_then ?_
   exact X_return (.bool true) rfl ⟨rfl, hK0⟩
  refine OI_eq [(12, pt b230), (74, .bool true), (77, .bool true)] (by first | rfl | rw [hg240]) ?_
  refine On 17 [83] ?_
  refine Ok (kL 12 #[] #[]) 12 #[] (some 84) (known_spec _) ?_
  rintro _ w249 ⟨rfl, hk250⟩
  refine ⟨_, rfl, ?_⟩
  have hsz251 := Keep.size hk250
  replace hb230_235 := hb230_235.k0 hk250
  replace hK0 := hK0.tn hk250
  replace hx := DLd.keep hx hk250 nk
  replace hy := DVt.keep hy hk250 nk
  replace hz := DRf.keep hz hk250 nk
  replace ho189 := ho189.keep hk250 nk
  replace ho192 := ho192.keep hk250 nk
  replace ho195 := ho195.keep hk250 nk
  refine Ose [(6, .bool true)] ?_
  refine V_ret ?_
  refine X_ret_then ?_
  exact X_return (.bool true) rfl ⟨rfl, hK0⟩
 refine V_skip ?_
 refine X_then ?_
 refine V_seq ?_
 refine Vs [(0, nt track), (7, pt b7), (8, pt b14), (10, .slice A187 ((rkD 3 track ref).1.length) cap187), (11, nt ((rkD 3 track ref).2.1)), (12, pt b230), (87, .bool (decide (ref > 2)))] ?_
 refine V_if (ref > 2) (by kernel_rfl) (fun hc252 => ?_) (fun hc252 => ?_)
 ·
  refine Vr ?_
  refine Os 3 [(10, .slice A187 ((rkD 3 track ref).1.length) cap187), (90, .bool (decide ((rkD 3 track ref).2.1 = 4)))] ?_
  refine Oq (u := .bool (decide ((rkD 3 track ref).2.1 = 4))) (v := .bool true) 90 (by rw [decide_eq_true (show ((rkD 3 track ref).2.1 = 4) from (rk2 (by omega) (by omega)).1)]) ?_
  refine Os 8 [(95, .bool (decide ((((rkD 3 track ref).1.length : Nat) : Int) = 0)))] ?_
  refine Oq (u := .bool (decide ((((rkD 3 track ref).1.length : Nat) : Int) = 0))) (v := .bool true) 95 (by rw [decide_eq_true (show ((((rkD 3 track ref).1.length : Nat) : Int) = 0) from (by have h9 := (rk2 (by omega) (by omega)).2; omega))]) ?_
  refine Ok (kL 12 #[] #[]) 12 #[] (some 96) (known_spec _) ?_
  rintro _ w257 ⟨rfl, hk258⟩
  refine ⟨_, rfl, ?_⟩
  have hsz259 := Keep.size hk258
  replace hb230_235 := hb230_235.k0 hk258
  replace hK0 := hK0.tn hk258
  replace hx := DLd.keep hx hk258 nk
  replace hy := DVt.keep hy hk258 nk
  replace hz := DRf.keep hz hk258 nk
  replace ho189 := ho189.keep hk258 nk
  replace ho192 := ho192.keep hk258 nk
  replace ho195 := ho195.keep hk258 nk
  refine Ose [(6, .bool true)] ?_
  refine V_ret ?_
  refine X_ret_then ?_
  exact X_return (.bool true) rfl ⟨rfl, hK0⟩
 refine V_skip ?_
 refine X_then ?_
 refine V_seq ?_
 refine V_draws (acts [14]) (fun q => q ≠ b7 ∧ q ≠ b14 ∧ q ≠ b230) [[0, 1, 2, 3, 4, 5, 6, 7, 8, 9, 10, 11, 12, 13, 14, 15, 16, 17, 18, 19]] (by kernel_rfl) (by repeat first | exact (by first | exact sure_body (by rintro _ _ ⟨_, _, h, _⟩; exact ⟨_, h⟩) | exact sure_body (by rintro _ _ ⟨_, _, _, _, _, _, _, _, _, _, _, h, _⟩; exact ⟨_, h⟩) | exact sure_body (by rintro _ _ ⟨h, _⟩; exact ⟨_, h⟩)) | refine sure_then ?_ | refine sure_block ?_ | refine sure_join ?_) (by kernel_rfl) ?_
 intro w261 hk260 he262 L hL263
 have hsz264 := Keep.size hk260
 replace hb := hb.k0 hk260
 replace hb14_19 := hb14_19.k0 hk260
 replace hb230_235 := hb230_235.k0 hk260
 replace hA187 := hA187.keep0 hk260
 replace hK0 := hK0.tn hk260
 replace hx := DLd.keep hx hk260 nk
 replace hy := DVt.keep hy hk260 nk
 replace hz := DRf.keep hz hk260 nk
 replace ho189 := ho189.keep hk260 nk
 replace ho192 := ho192.keep hk260 nk
 replace ho195 := ho195.keep hk260 nk
 have qhb := hb
 have qhb14_19 := hb14_19
 have qhb230_235 := hb230_235
 have qhA187 := hA187
 have K265 : Keep (fun q => q ≠ b7 ∧ q ≠ b14 ∧ q ≠ b230) w261 w261 := Keep.refl _ _
 obtain rfl := List.mem_singleton.1 hL263
 refine Gn [3, 4, 5, 6, 7, 8, 9, 10, 11, 12, 13, 14, 15, 16, 17, 18, 19] [0, 7, 8, 10, 11, 12, 101] ?_
 refine Gc 31 (.tmp 101) 0 (pt l) (some 102) qhb (by show ¬ (b7 ≠ b7 ∧ b7 ≠ b14 ∧ b7 ≠ b230); omega) rfl ?_
 refine Gn [7, 8, 9, 10, 11, 12, 13, 14, 15, 16, 17, 18, 19] [0, 7, 8, 10, 11, 12, 102, 105] ?_
 refine Gc 32 (.tmp 105) 1 (pt v) (some 106) qhb (by show ¬ (b7 ≠ b7 ∧ b7 ≠ b14 ∧ b7 ≠ b230); omega) rfl ?_
 refine Gn [11, 12, 13, 14, 15, 16, 17, 18, 19] [0, 8, 10, 11, 12, 102, 106, 109] ?_
 refine Gc 33 (.tmp 109) 2 (pt r) (some 110) qhb (by show ¬ (b7 ≠ b7 ∧ b7 ≠ b14 ∧ b7 ≠ b230); omega) rfl ?_
 refine Ga 26 (.tmp 8) 0 [nt 3, nt 0, nt ref, .slice none 0 0] (some 111) 4 qhb14_19 (by show ¬ (b14 ≠ b7 ∧ b14 ≠ b14 ∧ b14 ≠ b230); omega) rfl rfl ?_
 refine Gn [14, 15, 16, 17, 18, 19] [10, 11, 12, 102, 106, 110, 111, 112] ?_
 refine Gk0 (kL 10 #[(.tmp 102), (.tmp 106), (.tmp 110), (.tmp 111), (.tmp 112), (.const (nt 9))] #[31, 32, 33, 26, 3, 3]) 10 #[pt l, pt v, pt r, .agg #[nt 3, nt 0, nt ref, .slice none 0 0], nt track, nt 9] (some 113) (do_spec none_ (CA.mk 3 0 ref none 0 []) r g actTs v l track 9 F188 F191 F194 ((rkD 3 track ref).2.2) _ (RepIn.none (fun q h => (inA_none h).elim)) ho189 ho192 ho195 hdis197 hdis198 hdis199 (fun q h => h.elim)) ?_
 rintro _ w270 ⟨A272, cap272, rfl, hA272, ow272, ⟨F273, F276, F279, ho274, ho277, ho280, hfr275, hfr278, hfr281, hdis282, hdis283, hdis284, dA285, dA286, dA287⟩, hk271⟩
 refine ⟨_, rfl, ?_⟩
 have hsz288 := Keep.size hk271
 replace hb230_235 := hb230_235.keep hk271 (fun hs => by rcases hs with hs | hs | hs; (have u9 : _ = g := hs; have u0 := own205 _ (Rfr.atg ho189); have u1 := lt204 _ (Rfr.atg ho189); omega); (have u0 := own211 _ hs; have u1 := lt210 _ hs; omega); (have u0 := own217 _ hs; have u1 := lt216 _ hs; omega))
 replace hA187 := hA187.keep hk271 (fun q hq hs => by rcases hs with hs | hs | hs; exact dA200 q hq (by rw [show q = g from hs]; exact (Rfr.atg ho189)); exact dA201 q hq hs; exact dA202 q hq hs)
 replace hK0 := Keep.fresh hK0 hk271 (by intro i hi hs; first | exact hs | (rcases hs with hs | hs | hs; (have u9 : _ = g := hs; have u0 := own205 _ (Rfr.atg ho189); have u1 := lt204 _ (Rfr.atg ho189); omega); (have u0 := own211 i hs; have u1 := lt210 i hs; omega); (have u0 := own217 i hs; have u1 := lt216 i hs; omega)))
 replace hx := DLd.keep hx hk271 (fun q hq hs => by rcases hs with hs | hs | hs; exact (fun q h1 h2 => dis207 q h2 h1) q hq (by rw [show q = g from hs]; exact (Rfr.atg ho189)); exact (fun q h1 h2 => dis213 q h2 h1) q hq hs; exact (fun q h1 h2 => dis219 q h2 h1) q hq hs)
 replace hy := DVt.keep hy hk271 (fun q hq hs => by rcases hs with hs | hs | hs; exact (fun q h1 h2 => dis208 q h2 h1) q hq (by rw [show q = g from hs]; exact (Rfr.atg ho189)); exact (fun q h1 h2 => dis214 q h2 h1) q hq hs; exact (fun q h1 h2 => dis220 q h2 h1) q hq hs)
 replace hz := DRf.keep hz hk271 (fun q hq hs => by rcases hs with hs | hs | hs; exact (fun q h1 h2 => dis209 q h2 h1) q hq (by rw [show q = g from hs]; exact (Rfr.atg ho189)); exact (fun q h1 h2 => dis215 q h2 h1) q hq hs; exact (fun q h1 h2 => dis221 q h2 h1) q hq hs)
 have own290 : ∀ q, F273 q → w.heap.size ≤ q ∧ q ≠ b230 := fun q hq => by rcases hfr275 q hq with h | h; (have h1 := own205 q h; have h2 := lt204 q h; omega); omega
 have lt289 := Rfr.lt ho274
 have rel291 : ∀ q, F273 q → B8 q ∨ w5.heap.size ≤ q := fun q hq => by rcases hfr275 q hq with h | h; exact rel206 q h; exact .inr (by omega)
 have dis292 : ∀ q, F273 q → ¬ inA A187 q := fun q h1 h2 => by rcases hfr275 q h1 with h | h; exact (fun q h1 h2 => dA200 q h2 h1) q h h2; (have h4 := ltA187 q h2; omega)
 have dis293 : ∀ q, F273 q → ¬ X q := fun q h1 h2 => by rcases hfr275 q h1 with h | h; exact dis207 q h h2; (have h4 := ltX q h2; omega)
 have dis294 : ∀ q, F273 q → ¬ Y q := fun q h1 h2 => by rcases hfr275 q h1 with h | h; exact dis208 q h h2; (have h4 := ltY q h2; omega)
 have dis295 : ∀ q, F273 q → ¬ Z q := fun q h1 h2 => by rcases hfr275 q h1 with h | h; exact dis209 q h h2; (have h4 := ltZ q h2; omega)
 have own297 : ∀ q, F276 q → w.heap.size ≤ q ∧ q ≠ b230 := fun q hq => by rcases hfr278 q hq with h | h; (have h1 := own211 q h; have h2 := lt210 q h; omega); omega
 have lt296 := VotT.lt ho277
 have rel298 : ∀ q, F276 q → B8 q ∨ w5.heap.size ≤ q := fun q hq => by rcases hfr278 q hq with h | h; exact rel212 q h; exact .inr (by omega)
 have dis299 : ∀ q, F276 q → ¬ inA A187 q := fun q h1 h2 => by rcases hfr278 q h1 with h | h; exact (fun q h1 h2 => dA201 q h2 h1) q h h2; (have h4 := ltA187 q h2; omega)
 have dis300 : ∀ q, F276 q → ¬ X q := fun q h1 h2 => by rcases hfr278 q h1 with h | h; exact dis213 q h h2; (have h4 := ltX q h2; omega)
 have dis301 : ∀ q, F276 q → ¬ Y q := fun q h1 h2 => by rcases hfr278 q h1 with h | h; exact dis214 q h h2; (have h4 := ltY q h2; omega)
 have dis302 : ∀ q, F276 q → ¬ Z q := fun q h1 h2 => by rcases hfr278 q h1 with h | h; exact dis215 q h h2; (have h4 := ltZ q h2; omega)
 have own304 : ∀ q, F279 q → w.heap.size ≤ q ∧ q ≠ b230 := fun q hq => by rcases hfr281 q hq with h | h; (have h1 := own217 q h; have h2 := lt216 q h; omega); omega
 have lt303 := Led.lt ho280
 have rel305 : ∀ q, F279 q → B8 q ∨ w5.heap.size ≤ q := fun q hq => by rcases hfr281 q hq with h | h; exact rel218 q h; exact .inr (by omega)
 have dis306 : ∀ q, F279 q → ¬ inA A187 q := fun q h1 h2 => by rcases hfr281 q h1 with h | h; exact (fun q h1 h2 => dA202 q h2 h1) q h h2; (have h4 := ltA187 q h2; omega)
 have dis307 : ∀ q, F279 q → ¬ X q := fun q h1 h2 => by rcases hfr281 q h1 with h | h; exact dis219 q h h2; (have h4 := ltX q h2; omega)
 have dis308 : ∀ q, F279 q → ¬ Y q := fun q h1 h2 => by rcases hfr281 q h1 with h | h; exact dis220 q h h2; (have h4 := ltY q h2; omega)
 have dis309 : ∀ q, F279 q → ¬ Z q := fun q h1 h2 => by rcases hfr281 q h1 with h | h; exact dis221 q h h2; (have h4 := ltZ q h2; omega)
 have ltA272 := SlT.lt hA272
 have dis310 : ∀ q, inA A272 q → ¬ X q := fun q h1 h2 => by have h3 := ow272 q h1; have h4 := ltX q h2; omega
 have dis311 : ∀ q, inA A272 q → ¬ Y q := fun q h1 h2 => by have h3 := ow272 q h1; have h4 := ltY q h2; omega
 have dis312 : ∀ q, inA A272 q → ¬ Z q := fun q h1 h2 => by have h3 := ow272 q h1; have h4 := ltZ q h2; omega
 replace ho274 : Rfr F273 w270 r g actTs ((doD actTs track 9 (CA.mk 3 0 ref none 0 []) ((rkD 3 track ref).2.2)).2.2).rs := ho274
 replace ho277 : VotT F276 w270 v (((doD actTs track 9 (CA.mk 3 0 ref none 0 []) ((rkD 3 track ref).2.2)).2.2).s) := ho277
 replace ho280 : Led F279 w270 l ((doD actTs track 9 (CA.mk 3 0 ref none 0 []) ((rkD 3 track ref).2.2)).2.2).xs ((doD actTs track 9 (CA.mk 3 0 ref none 0 []) ((rkD 3 track ref).2.2)).2.2).cs := ho280
 refine Gp_ [(10, .slice A187 ((rkD 3 track ref).1.length) cap187), (11, nt ((rkD 3 track ref).2.1)), (12, pt b230), (113, .tuple #[.slice A272 (((doD actTs track 9 (CA.mk 3 0 ref none 0 []) ((rkD 3 track ref).2.2)).1).length) cap272, nt ((doD actTs track 9 (CA.mk 3 0 ref none 0 []) ((rkD 3 track ref).2.2)).2.1)])] ?_
 refine GI_eq [(10, .slice A187 ((rkD 3 track ref).1.length) cap187), (11, nt ((rkD 3 track ref).2.1)), (12, pt b230), (113, .tuple #[.slice A272 (((doD actTs track 9 (CA.mk 3 0 ref none 0 []) ((rkD 3 track ref).2.2)).1).length) cap272, nt (rkE 3 track ref)])] (by rfl) ?_
 refine Gn [] [10, 11, 12, 15] ?_
 refine GI_end ?_
 refine X_then ?_
 refine Vr ?_
 refine Os 3 [(10, .slice A187 ((rkD 3 track ref).1.length) cap187), (12, pt b230), (15, nt (rkE 3 track ref)), (118, .bool (decide ((rkD 3 track ref).2.1 = 0)))] ?_
 refine Oq (u := .bool (decide ((rkD 3 track ref).2.1 = 0))) (v := .bool true) 118 (by rw [decide_eq_true (show ((rkD 3 track ref).2.1 = 0) from (rk3 (by omega) (by omega)).1)]) ?_
 refine Os 8 [(12, pt b230), (15, nt (rkE 3 track ref)), (123, .bool (decide ((((rkD 3 track ref).1.length : Nat) : Int) ≥ 1)))] ?_
 refine Oq (u := .bool (decide ((((rkD 3 track ref).1.length : Nat) : Int) ≥ 1))) (v := .bool true) 123 (by rw [decide_eq_true (show ((((rkD 3 track ref).1.length : Nat) : Int) ≥ 1) from (by have h9 := (rk3 (by omega) (by omega)).2.1; omega))]) ?_
 refine On 9 [12, 15, 123, 124] ?_
 refine Oc 3 (.tmp 124) 0 (nt ((getA ((rkD 3 track ref).2.2).rs ref).state)) (some 125) hb230_235 rfl ?_
 refine Os 13 [(12, pt b230), (15, nt (rkE 3 track ref)), (128, .bool (!(decide ((getA ((rkD 3 track ref).2.2).rs ref).state = 1))))] ?_
 refine Oq (u := .bool (!(decide ((getA ((rkD 3 track ref).2.2).rs ref).state = 1)))) (v := .bool true) 128 (by rw [decide_eq_false (show ¬ ((getA ((rkD 3 track ref).2.2).rs ref).state = 1) from (rk3 (by omega) (by omega)).2.2.1)]; rfl) ?_
 refine On 14 [15, 128, 129] ?_
 refine Oc 3 (.tmp 129) 41 (nt ((getA ((rkD 3 track ref).2.2).rs ref).stop)) (some 130) hb230_235 rfl ?_
 refine Os 18 [(15, nt (rkE 3 track ref)), (133, .bool (decide ((getA ((rkD 3 track ref).2.2).rs ref).stop = 9)))] ?_
 refine Oq (u := .bool (decide ((getA ((rkD 3 track ref).2.2).rs ref).stop = 9))) (v := .bool true) 133 (by rw [decide_eq_true (show ((getA ((rkD 3 track ref).2.2).rs ref).stop = 9) from (rk3 (by omega) (by omega)).2.2.2.1)]) ?_
 refine Os 22 [(137, .bool (decide (rkE 3 track ref = 9)))] ?_
 refine Oq (u := .bool (decide (rkE 3 track ref = 9))) (v := .bool true) 137 (by rw [decide_eq_true (show (rkE 3 track ref = 9) from (rk3 (by omega) (by omega)).2.2.2.2)]) ?_
 refine Ok (kL 12 #[] #[]) 12 #[] (some 138) (known_spec _) ?_
 rintro _ w320 ⟨rfl, hk321⟩
 refine ⟨_, rfl, ?_⟩
 have hsz322 := Keep.size hk321
 replace hb230_235 := hb230_235.k0 hk321
 replace hK0 := hK0.tn hk321
 replace hx := DLd.keep hx hk321 nk
 replace hy := DVt.keep hy hk321 nk
 replace hz := DRf.keep hz hk321 nk
 replace ho274 := ho274.keep hk321 nk
 replace ho277 := ho277.keep hk321 nk
 replace ho280 := ho280.keep hk321 nk
 refine Ose [(6, .bool true)] ?_
 refine V_ret ?_
 exact X_return (.bool true) rfl ⟨rfl, hK0⟩
end Go.Al
