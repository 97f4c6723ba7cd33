/-
  Put together out of 3 texts: Laws of the ledger: all of an account's locks. Laws of the ledger: acts, in both; alike. Laws of the ledger: whatever is played.
-/
import Derived.Test.YtmflbilhdoiihaaLedgerPlaysB3
set_option maxRecDepth 10000
namespace Go.Al
open Go Go.RowKit Go.Proofs
theorem lockl_spec (F : Nat → Prop) (l : Nat) (xs : List Acc) (cs : List Ci) (a : Int) (w : World) (h : Led F w l xs cs) (hmax : cs.length ≤ 200) : Calls Try.prog 31 #[pt l, nt a] w fun e w' => ∃ Ak capk, e = .returned (.tuple #[.slice Ak (rowL a cs).length capk, .bool true]) ∧ SlT w' 2 lkc Ak capk (rowL a cs) ∧ Keep none_ w w' ∧ (∀ q, inA Ak q → w.heap.size ≤ q) := by
 obtain ⟨hinv, hFl, hFlt, g, A, cap, D, hat, hG, hAF, hDF, hAD⟩ := h
 have hl := hat.blk
 have hA := hat.sl
 have hllt := hl.lt
 have hAl : ∀ q, inA A q → q ≠ l := fun q hq => (hAF q hq).2
 have hAlt := SlT.lt hA
 have hDl : ∀ q, D q → q ≠ l := fun q hq => (hDF q hq).2
 have hDlt := Grd.lt hG
 have hx10 := hinv.1
 have hK0 : Keep none_ w w := Keep.refl _ _
 have hzhK0 := Keep.size hK0
 refine enterM Try.func31 rfl [pt l, nt a] 28 rfl rfl rfl ?_
 refine Vp [(0, pt l), (1, nt a)] <| Vr <| Alc_ 52 (.slice none 0 0) [.slice none 0 0] ?_
 intro b1 w1 e1 hb1 k1 z1
 have hsz2 := Keep.size k1
 replace hG := Grd.keep hG k1 nk
 replace hK0 := hK0.tn k1
 have hb1lt := hb1.lt
 refine Alc_ 4 (.bool false) [.bool false] ?_
 intro b3 w3 e3 hb3 k3 z3
 have hsz4 := Keep.size k3
 replace hl := hl.k0 (k1.tr k3)
 replace hG := Grd.keep hG k3 nk
 replace hK0 := hK0.tn k3
 have hb3lt := hb3.lt
 refine Oer <| On 2 [4, 5, 10, 11] <| Ok (kl 37 #[(.tmp 10), (.tmp 11)] #[22, 3]) 37 #[pt l, nt a] (some 12) (locks_spec l g _ a _ hl) ?_
 rintro _ w5 ⟨bg7, bs8, bn9, rfl, hbg7, hbs8, hbn9, hk6, hgebg7, hgebs8, hgebn9⟩
 refine ⟨_, rfl, ?_⟩
 have hsz10 := Keep.size hk6
 replace hG := Grd.keep hG hk6 nk
 replace hK0 := hK0.tn hk6
 have hbg7lt := hbg7.lt
 have hbs8lt := hbs8.lt
 have hbn9lt := hbn9.lt
 refine On 4 [4, 5, 6] <| Oe <| V_seq <| Vn [4, 5, 6, 14] <| Vf <| Vsk <| Vr <| Alc_ 52 (.slice none 0 0) [.slice none 0 0] ?_
 intro b11 w11 e11 hb11 k11 z11
 have hsz12 := Keep.size k11
 replace hl := hl.k0 (hk6.tr k11)
 replace hb1 := hb1.k0 ((k3.tr hk6).tr k11)
 replace hb3 := hb3.k0 (hk6.tr k11)
 replace hbg7 := hbg7.k0 k11
 replace hbs8 := hbs8.k0 k11
 replace hbn9 := hbn9.k0 k11
 replace hG := Grd.keep hG k11 nk
 replace hK0 := hK0.tn k11
 have hb11lt := hb11.lt
 refine Oe <| V_seq <| Vn [4, 5, 7, 15] <| V_block ?_
 obtain ⟨_, _, _, _, A2, cap2, hat2, hAD2⟩ := hG
 have hA2 := hat2.sl
 have owA2 : ∀ q, inA A2 q → q < w.heap.size := fun q hq => hDlt q (hAD2 q hq)
 have hrl : (rowL a cs).length ≤ 200 := by unfold rowL; rw [List.length_map]; exact Nat.le_trans (List.length_filter_le _ _) hmax
 refine Vp [(4, pt b1), (5, pt b3), (7, pt b11), (15, .func (.func 68) #[] #[pt bg7, pt bs8, pt bn9])] ?_
 have hN0 : w.heap.size ≤ w11.heap.size := Keep.size hK0
 refine V_range2 (gf := 68) (caps := #[pt bg7, pt bs8, pt bn9]) (m := (rowL a cs).length) (by kernel_rfl) (by kernel_rfl) (by kernel_rfl) (along1_iter0 bg7 bs8 bn9 g cap2 A2 cs a (by omega)) (⟨hbg7, hat2, ⟨hbs8, hbn9, hA2⟩⟩) (fun W W' h k => ⟨h.1.quiet k, h.2.1.quiet k, h.2.2.quiet k⟩) (enc2_size _) (fun M1 k W => ∃ Ak : Option Addr, ∃ capk : Nat, (Blk W b1 [.slice none 0 0] 52) ∧ (Blk W b3 [.bool false] 4) ∧ (Blk W bs8 [nt 0] 3) ∧ (Blk W bn9 [nt a] 3) ∧ (SlT W 3 Ci.cells A2 cap2 cs) ∧ (Keep none_ w W) ∧ (Blk W b11 [.slice Ak (((rowL a cs).take k).length) capk] 52) ∧ (SlT W 2 lkc Ak capk ((rowL a cs).take k)) ∧ (∀ q, inA Ak q → M1 ≤ q)) (fun M1 c k W => False) (fun M1 k W W' h hk => by obtain ⟨Ak, capk, jb1, jb3, jbs8, jbn9, jA2, jhK0, jb11, jAk, ownk⟩ := h; exact ⟨Ak, capk, jb1.quiet hk, jb3.quiet hk, jbs8.quiet hk, jbn9.quiet hk, jA2.quiet hk, jhK0.quiet hk (by omega), jb11.quiet hk, jAk.quiet hk, ownk⟩) (fun _ _ _ _ _ h _ => h.elim) (fun M1 hM1 => ⟨none, 0, hb1, hb3, hbs8, hbn9, hA2, hK0, hb11, SlT.nil _ _ _, fun q h => (inA_none h).elim⟩) (fun M1 k W h => by obtain ⟨Ak, capk, jb1, jb3, jbs8, jbn9, jA2, jhK0, jb11, jAk, ownk⟩ := h; exact ⟨jbs8, jbn9, jA2⟩) ?_ ?_ (fun _ _ _ _ _ _ _ _ h _ => h.elim)
 ·
  intro lp D M1 k W hD hl hM hMW hkm ⟨Ak, capk, jb1, jb3, jbs8, jbn9, jA2, jhK0, jb11, jAk, ownk⟩ ⟨rr, hrr⟩ hDD
  have hzjhK0 := Keep.size jhK0
  have hb1lt := jb1.lt
  have hb3lt := jb3.lt
  have hbs8lt := jbs8.lt
  have hbn9lt := jbn9.lt
  have hb11lt := jb11.lt
  have ltjA2 := SlT.lt jA2
  have ltjAk := SlT.lt jAk
  obtain ⟨x, hx⟩ : ∃ x, (rowL a cs)[k]? = some x := ⟨_, List.getElem?_eq_getElem hkm⟩
  rw [enc2_at hx]
  have hlk : ((rowL a cs).take k).length = k := by rw [List.length_take]; omega
  have hs1 : (rowL a cs).take (k + 1) = (rowL a cs).take k ++ [x] := by obtain ⟨h1, h2⟩ := List.getElem?_eq_some_iff.1 hx; rw [List.take_succ_eq_append_getElem h1, h2]
  refine Vp [(4, pt b1), (5, pt b3), (7, pt b11), (16, nt x.1), (17, nt x.2)] ?_
  have hfen : Keep (fen w11.heap.size M1) W W := Keep.refl _ _
  have hzhfen := Keep.size hfen
  refine Vr <| On 1 [4, 5, 7, 8, 17] <| Oe <| V_region <| Os 1 [(4, pt b1), (5, pt b3), (7, pt b11), (8, nt x.1), (9, nt x.2)] <| OI_end rfl <| X_begin2 hfen ?_
  intro W2 hk2 ⟨r2, hr2⟩ hD2
  have hsz13 := Keep.size hk2
  replace jb1 := Blk.quiet jb1 hk2
  replace jb3 := Blk.quiet jb3 hk2
  replace jbs8 := Blk.quiet jbs8 hk2
  replace jbn9 := Blk.quiet jbn9 hk2
  replace jb11 := Blk.quiet jb11 hk2
  replace jA2 := jA2.quiet hk2
  replace jAk := jAk.quiet hk2
  replace jhK0 := Keep.quiet jhK0 hk2 (by omega)
  have hzhk2 := Keep.size hk2
  have hfenb : Keep (fen w11.heap.size M1) W2 W2 := Keep.refl _ _
  have hzhfenb := Keep.size hfenb
  refine V_block <| Vr <| Lr 0 (.slice Ak (((rowL a cs).take k).length) capk) jb11 <| On 4 [4, 5, 7, 18, 21] <| OI_slit (E := 61) (zv := .agg #[nt 0, nt 0]) (sz := 2) (by_ := 16) 52 1 #[(0, (Operand.tmp 21))] [.agg #[nt x.1, nt x.2]] [nt x.1, nt x.2] (some 22) (by kernel_rfl) (by kernel_rfl) (by kernel_rfl) (by omega) rfl (by omega) (by intro v hv; simp only [List.mem_cons, List.not_mem_nil, or_false] at hv; rcases hv with rfl <;> rfl) (by kernel_rfl) rfl ?_
  intro b14 w14 e14 hb14 k14 z14
  have hsz15 := Keep.size k14
  replace jb1 := jb1.k0 k14
  replace jb3 := jb3.k0 k14
  replace jbs8 := jbs8.k0 k14
  replace jbn9 := jbn9.k0 k14
  replace jb11 := jb11.k0 k14
  replace jA2 := jA2.keep0 k14
  replace jAk := jAk.keep0 k14
  replace jhK0 := jhK0.tn k14
  replace hfenb := hfenb.tn k14
  have hb14lt := hb14.lt
  refine OI_append (t := 52) (at2 := 52) (E := 61) (E2 := 61) (sz := 2) (by_ := 16) (zv := .agg #[nt 0, nt 0]) (m := ((rowL a cs).take k).length) (k := 1) (.tmp 18) (.tmp 22) (.slice Ak (((rowL a cs).take k).length) capk) (sl_ b14 0 1 1) (some 23) (by kernel_rfl) (by kernel_rfl) (by kernel_rfl) (by kernel_rfl) (by kernel_rfl) (by kernel_rfl) (by kernel_rfl) (SlT.slr jAk) (slr_one hb14 (lkc_len x)) (lkc_one x) (by first | omega | (simp only [List.length_nil]; omega)) (by omega) (by first | omega | (simp only [List.length_nil]; omega)) (by omega) ?_
  intro vv9 w16 hap
  obtain ⟨A16, cap16, rfl, hA16, hk16, own16x⟩ := app_one (f := lkc) (xs := ((rowL a cs).take k)) (x := x) (A := Ak) (cap := capk) hap (fun x _ => lkc_len x) (lkc_len _)
  have own16 : ∀ q, inA A16 q → M1 ≤ q := fun q hq => by rcases own16x q hq with h | h; exact ownk q h; (show M1 ≤ q; omega)
  have hsz17 := Keep.size hk16
  replace jb1 := jb1.keep hk16 (fun hs => by have h1 := ownk _ hs; have h2 := ltjAk _ hs; omega)
  replace jb3 := jb3.keep hk16 (fun hs => by have h1 := ownk _ hs; have h2 := ltjAk _ hs; omega)
  replace jbs8 := jbs8.keep hk16 (fun hs => by have h1 := ownk _ hs; have h2 := ltjAk _ hs; omega)
  replace jbn9 := jbn9.keep hk16 (fun hs => by have h1 := ownk _ hs; have h2 := ltjAk _ hs; omega)
  replace jb11 := jb11.keep hk16 (fun hs => by have h1 := ownk _ hs; have h2 := ltjAk _ hs; omega)
  replace jA2 := jA2.keep hk16 (fun q hq hs => by have g0 := owA2 q hq; have g1 := ltjA2 q hq; have h1 := ownk q hs; have h2 := ltjAk q hs; omega)
  replace jhK0 := Keep.fresh jhK0 hk16 (by intro i hi hs; first | exact hs | (exfalso; have h1 := ownk i hs; have h2 := ltjAk i hs; omega) | (have h1 := ownk i hs; have h2 := ltjAk i hs; show _ ∨ _; omega))
  replace hfenb := Keep.fresh hfenb hk16 (by intro i hi hs; have h1 := ownk i hs; have h2 := ltjAk i hs; show _ ∨ _; omega)
  have lt16 := SlT.lt hA16
  refine St_ 0 (.slice A16 ((((rowL a cs).take k) ++ [x]).length) cap16) jb11 ?_
  intro w18 hb11_21 hk19 hz20
  replace hb11_21 : Blk w18 b11 [.slice A16 ((((rowL a cs).take k) ++ [x]).length) cap16] 52 := hb11_21
  have hsz22 := Keep.size hk19
  replace jb1 := jb1.k1 hk19
  replace jb3 := jb3.k1 hk19
  replace jbs8 := jbs8.k1 hk19
  replace jbn9 := jbn9.k1 hk19
  replace jA2 := jA2.keep hk19 (fun q hq hs => by have hs : q = b11 := hs; have g0 := owA2 q hq; have g1 := ltjA2 q hq; omega)
  replace hA16 := hA16.keep hk19 (fun q hq hs => by have hs : q = b11 := hs; have g0 := own16 q hq; have g1 := lt16 q hq; omega)
  replace jhK0 := Keep.fr jhK0 hk19
  replace hfenb := Keep.fresh hfenb hk19 (by intro i hi hs; have hs2 : i = b11 := hs; show _ ∨ _; omega)
  refine Oer <| Lr 0 (.slice A16 ((((rowL a cs).take k) ++ [x]).length) cap16) hb11_21 <| Ose [(4, pt b1), (5, pt b3), (26, .bool (decide ((((((rowL a cs).take k) ++ [x]).length : Nat) : Int) > 200)))] <| Vi ((((((rowL a cs).take k) ++ [x]).length : Nat) : Int) > 200) (fun hc23 => ?_) (fun hc23 => ?_)
  ·
   exact (by simp only [List.length_append, List.length_cons, List.length_nil] at hc23; omega : False).elim
  refine V_skip <| X_block ?_
  exact fun a _ => ⟨hfenb, A16, cap16, jb1, jb3, jbs8, jbn9, jA2, jhK0, by rw [hs1]; exact hb11_21, by rw [hs1]; exact hA16, own16⟩
 ·
  intro D M1 W hD hM ⟨Ak, capk, jb1, jb3, jbs8, jbn9, jA2, jhK0, jb11, jAk, ownk⟩ hDD
  have hzjhK0 := Keep.size jhK0
  have hb1lt := jb1.lt
  have hb3lt := jb3.lt
  have hbs8lt := jbs8.lt
  have hbn9lt := jbn9.lt
  have hb11lt := jb11.lt
  have ltjA2 := SlT.lt jA2
  have ltjAk := SlT.lt jAk
  rw [List.take_length] at jAk jb11
  refine X_block <| X_then <| Vr <| Oc 52 (.tmp 7) 0 (.slice Ak ((rowL a cs).length) capk) (some 27) jb11 rfl <| St_ 0 (.slice Ak ((rowL a cs).length) capk) jb1 ?_
  intro w24 hb1_27 hk25 hz26
  replace hb1_27 : Blk w24 b1 [.slice Ak ((rowL a cs).length) capk] 52 := hb1_27
  have hsz28 := Keep.size hk25
  replace jb3 := jb3.k1 hk25
  replace jAk := jAk.keep hk25 (fun q hq hs => by have hs : q = b1 := hs; have g0 := ownk q hq; have g1 := ltjAk q hq; omega)
  replace jhK0 := Keep.fr jhK0 hk25
  replace hDD := (Keep.block hk25 _ (Array.getElem?_eq_some_iff.1 hDD).1 (by show ¬ (_ = _); omega)).trans hDD
  refine St_ 0 (.bool true) jb3 ?_
  intro w29 hb3_32 hk30 hz31
  replace hb3_32 : Blk w29 b3 [.bool true] 4 := hb3_32
  have hsz33 := Keep.size hk30
  replace hb1_27 := hb1_27.k1 hk30
  replace jAk := jAk.keep hk30 (fun q hq hs => by have hs : q = b3 := hs; have g0 := ownk q hq; have g1 := ltjAk q hq; omega)
  replace jhK0 := Keep.fr jhK0 hk30
  replace hDD := (Keep.block hk30 _ (Array.getElem?_eq_some_iff.1 hDD).1 (by show ¬ (_ = _); omega)).trans hDD
  refine Oe <| V_ret ?_
  exact leave1 (.tuple #[.slice Ak (rowL a cs).length capk, .bool true]) (.inl rfl) hDD (fun w' hk => ⟨res_cells2 (n1 := 1) (n2 := 1) rfl rfl rfl (by kernel_rfl) (by kernel_rfl) (Blk.quiet hb1_27 hk) (Blk.quiet hb3_32 hk) , ⟨Ak, capk, rfl, SlT.quiet jAk hk, Keep.quiet jhK0 hk (by omega), fun q h => (by have := ownk q h; omega)⟩⟩)
end Go.Al

namespace Go.Al
open Go Go.RowKit Go.Proofs
structure Ac4 where
  k : Int
  a : Int
  b : Int
  n : Int
def Ac4.cells (x : Ac4) : List Value := [nt x.k, nt x.a, nt x.b, nt x.n]
theorem Ac4.len (x : Ac4) : x.cells.length = 4 := rfl
theorem lift_Ac4 (x : List Value) (h : Flat [.int .i64, .int .i64, .int .i64, .int .i64] x) : ∃ y : Ac4, y.cells = x := by
  match x, h with
  | [], h => exact h.elim
  | [_], h => exact h.2.elim
  | [_, _], h => exact h.2.2.elim
  | [_, _, _], h => exact h.2.2.2.elim
  | [v1, v2, v3, v4], h =>
    obtain ⟨⟨n1, rfl, _⟩, ⟨n2, rfl, _⟩, ⟨n3, rfl, _⟩, ⟨n4, rfl, _⟩, _⟩ := h
    exact ⟨⟨n1, n2, n3, n4⟩, rfl⟩
  | _ :: _ :: _ :: _ :: _ :: _, h => exact h.2.2.2.2.elim
theorem setC_len (a b v : Int) : ∀ cs : List Ci, (setC a b v cs).length ≤ cs.length + 1
  | [] => by simp [setC]
  | x :: l => by
    have := setC_len a b v l
    simp only [setC]
    split
    · simp
    · split
      · simp only [List.length_cons]; omega
      · simp
theorem delC_len (a b : Int) : ∀ cs : List Ci, (delC a b cs).length ≤ cs.length
  | [] => by simp [delC]
  | x :: l => by
    have := delC_len a b l
    simp only [delC]
    split <;> simp <;> omega
theorem lockC_len (cs : List Ci) (a i n : Int) : (lockC cs a i n).length ≤ cs.length + 1 := by
  unfold lockC
  split
  · split
    · have := delC_len a i cs; omega
    · exact setC_len _ _ _ _
  · omega
def actX (z : Ac4) (X : List Acc) (C : List Ci) : List Acc :=
  if z.k = 1 then transX X C z.a z.b z.n else if z.k = 2 then resX X C z.a z.n else if z.k = 3 then relX X z.a z.n else if z.k = 4 then slX X z.a z.n else if z.k = 5 then X else if z.k = 6 then mintX X z.a z.n else burnX X C z.a z.n
def actC (z : Ac4) (C : List Ci) : List Ci :=
  if z.k = 1 then C else if z.k = 2 then C else if z.k = 3 then C else if z.k = 4 then C else if z.k = 5 then lockC C z.a z.b z.n else C
theorem actC_len (z : Ac4) (C : List Ci) : (actC z C).length ≤ C.length + 1 := by
  unfold actC
  repeat' split
  all_goals first | omega | exact lockC_len _ _ _ _
theorem DLd.rows {F : Nat → Prop} {w : World} {x : Nat} {xs : List Acc} {cs : List Ci} (h : DLd F w x xs cs) : ∃ A cap ds, Blk w x [.slice A ds.length cap] 59 ∧ SlT w 3 DE.cells A cap ds ∧ ds.length = 10 ∧ ∀ (j : Nat) (d : DE), ds[j]? = some d → d.ls = rowL (j : Int) cs ∧ SlT w 2 lkc d.A d.cap d.ls := by
  obtain ⟨hi, _, _, _, A, cap, ds, h4, h5, _, h7, h8⟩ := h
  exact ⟨A, cap, ds, h4, h5, de_len h7 hi, fun j d hd => ⟨(h8 j d hd).1, (h8 j d hd).2.1⟩⟩
theorem act_spec (F1 F2 : Nat → Prop) (l x : Nat) (xs : List Acc) (cs : List Ci) (z : Ac4) (w : World) (h1 : Led F1 w l xs cs) (h2 : DLd F2 w x xs cs) (hdis : ∀ q, F1 q → ¬ F2 q) (hmax : cs.length < 90000) : Calls Try.prog 29 #[pt l, pt x, .agg z.cells.toArray] w fun e w' => e = .returned (.bool true) ∧ (∃ F1' F2', Led F1' w' l (actX z xs cs) (actC z cs) ∧ DLd F2' w' x (actX z xs cs) (actC z cs) ∧ (∀ q, F1' q → F1 q ∨ w.heap.size ≤ q) ∧ (∀ q, F2' q → F2 q ∨ w.heap.size ≤ q) ∧ (∀ q, F1' q → ¬ F2' q)) ∧ Keep (fun q => F1 q ∨ F2 q) w w' := by
 have ltF1 := Led.lt h1
 have ltF2 := DLd.lt h2
 have hglt := ltF1 _ (Led.at_ h1)
 have hxlt := ltF2 _ (DLd.at_ h2)
 have hrF1 : ∀ q, F1 q → F1 q ∨ w.heap.size ≤ q := fun q h => .inl h
 have hrF2 : ∀ q, F2 q → F2 q ∨ w.heap.size ≤ q := fun q h => .inl h
 have hK0 : Keep (fun q => F1 q ∨ F2 q) w w := Keep.refl _ _
 have hzhK0 := Keep.size hK0
 refine eV ?_
 refine Vr <| OI_box 40 (.tmp 2) (.agg (Ac4.cells z).toArray) (Ac4.cells z) (some 5) (by kernel_rfl) (by kernel_rfl) rfl ?_
 intro b1 w1 e1 hb1 k1 z1
 have hsz2 := Keep.size k1
 replace h1 := h1.keep k1 nk
 replace h2 := DLd.keep h2 k1 nk
 replace hK0 := hK0.tn k1
 have hb1lt := hb1.lt
 refine On 2 [0, 1, 5] <| Oe <| V_seq <| Vr <| On 1 [0, 1, 5, 7] <| Lr 0 (nt z.k) hb1 <| Oe <| V_block <| Vn [0, 1, 5, 8, 9] <| Vi (z.k = 1) (fun hc3 => ?_) (fun hc3 => ?_)
 ·
  refine V_seq <| Vd1 (acts [7, 15]) (fun q => q ≠ b1) [0, 1, 2, 3, 4, 5, 6, 7, 8, 9, 10, 11, 12, 13, 14, 15, 16, 17] fun w5 hk4 he6 K9 _ => ?_
  replace hb1 := hb1.k0 hk4
  replace h1 := h1.keep hk4 nk
  replace h2 := DLd.keep h2 hk4 nk
  replace hK0 := hK0.tn hk4
  have qhb1 := hb1
  refine Gn [2, 3, 4, 5, 6, 7, 8, 9, 10, 11, 12, 13, 14, 15, 16, 17] [1, 5, 11, 12] <| Mc 1 (nt z.a) qhb1 (by show ¬ (b1 ≠ b1); omega) rfl <| Gn [4, 5, 6, 7, 8, 9, 10, 11, 12, 13, 14, 15, 16, 17] [1, 5, 11, 13, 14] <| Mc 2 (nt z.b) qhb1 (by show ¬ (b1 ≠ b1); omega) rfl <| Gn [6, 7, 8, 9, 10, 11, 12, 13, 14, 15, 16, 17] [1, 5, 11, 13, 15, 16] <| Mc 3 (nt z.n) qhb1 (by show ¬ (b1 ≠ b1); omega) rfl <| Hg (transfer_spec F1 l xs cs z.a z.b z.n _ h1) ?_
  rintro _ w12 ⟨rfl, ⟨F14, ho15, hfr16⟩, hk13⟩
  have K17 := Keep.fresh K9 hk13 (by intro i hi hs; have h2 := ltF1 i hs; show i ≠ b1; omega)
  refine ⟨_, rfl, K17, ?_⟩
  have hzK17 := Keep.size K17
  have hsz18 := Keep.size hk13
  replace h2 := DLd.keep h2 hk13 (fun q hq hs => hdis q hs hq)
  replace hK0 := Keep.fresh hK0 hk13 (fun i hi hs => by rcases hrF1 i hs with h | h; exact .inl h; (exfalso; omega))
  have lt19 := Led.lt ho15
  have rel20 : ∀ q, F14 q → F1 q ∨ w.heap.size ≤ q := fun q hq => by rcases hfr16 q hq with h | h; exact hrF1 q h; exact .inr (by omega)
  have dis21 : ∀ q, F14 q → ¬ F2 q := fun q h1 h2 => by rcases hfr16 q h1 with h | h; exact hdis q h h2; (have h4 := ltF2 q h2; omega)
  refine Gn [10, 11, 12, 13, 14, 15, 16, 17] [5, 18, 19, 20] <| Mc 1 (nt z.a) qhb1 (by show ¬ (b1 ≠ b1); omega) rfl <| Gn [12, 13, 14, 15, 16, 17] [5, 18, 19, 21, 22] <| Mc 2 (nt z.b) qhb1 (by show ¬ (b1 ≠ b1); omega) rfl <| Gn [14, 15, 16, 17] [18, 19, 21, 23, 24] <| Mc 3 (nt z.n) qhb1 (by show ¬ (b1 ≠ b1); omega) rfl <| Jg (transfer6_spec F2 x xs cs z.a z.b z.n _ h2) ?_
  rintro _ w24 ⟨rfl, ⟨F26, ho27, hfr28⟩, hk25⟩
  refine ⟨_, rfl, ?_⟩
  have hsz29 := Keep.size hk25
  replace hK0 := Keep.fresh hK0 hk25 (fun i hi hs => by rcases hrF2 i hs with h | h; exact .inr h; (exfalso; omega))
  replace ho15 := ho15.keep hk25 (fun q hq hs => (fun q h1 h2 => dis21 q h2 h1) q hs hq)
  have lt30 := DLd.lt ho27
  have rel31 : ∀ q, F26 q → F2 q ∨ w.heap.size ≤ q := fun q hq => by rcases hfr28 q hq with h | h; exact hrF2 q h; exact .inr (by omega)
  have dis32 : ∀ q, F26 q → ¬ F14 q := fun q h1 h2 => by rcases hfr28 q h1 with h | h; exact (fun q h1 h2 => dis21 q h2 h1) q h h2; (have h4 := lt19 q h2; omega)
  refine Gn [] [6] <| GI_end <| X_then <| V_ret <| X_ret_block <| X_ret_then ?_
  have hE : actX z xs cs = (transX xs cs z.a z.b z.n) := by unfold actX; rw [if_pos hc3]
  have hE2 : actC z cs = cs := by unfold actC; rw [if_pos hc3]
  rw [hE, hE2]
  exact Xr (.bool (decide (transE xs cs z.a z.b z.n = transE xs cs z.a z.b z.n))) ⟨by simp, ⟨F14, F26, ho15, ho27, rel20, rel31, (fun q h1 h2 => dis32 q h2 h1)⟩, hK0⟩
 refine Vn [0, 1, 5, 8, 28] <| Vi (z.k = 2) (fun hc33 => ?_) (fun hc33 => ?_)
 ·
  refine V_seq <| Vd1 (acts [5, 11]) (fun q => q ≠ b1) [0, 1, 2, 3, 4, 5, 6, 7, 8, 9, 10, 11, 12, 13] fun w35 hk34 he36 K39 _ => ?_
  replace hb1 := hb1.k0 hk34
  replace h1 := h1.keep hk34 nk
  replace h2 := DLd.keep h2 hk34 nk
  replace hK0 := hK0.tn hk34
  have qhb1 := hb1
  refine Gn [2, 3, 4, 5, 6, 7, 8, 9, 10, 11, 12, 13] [1, 5, 30, 31] <| Mc 1 (nt z.a) qhb1 (by show ¬ (b1 ≠ b1); omega) rfl <| Gn [4, 5, 6, 7, 8, 9, 10, 11, 12, 13] [1, 5, 30, 32, 33] <| Mc 3 (nt z.n) qhb1 (by show ¬ (b1 ≠ b1); omega) rfl <| Hg (reserve_spec F1 l xs cs z.a z.n _ h1) ?_
  rintro _ w42 ⟨rfl, ⟨F44, ho45, hfr46⟩, hk43⟩
  have K47 := Keep.fresh K39 hk43 (by intro i hi hs; have h2 := ltF1 i hs; show i ≠ b1; omega)
  refine ⟨_, rfl, K47, ?_⟩
  have hzK47 := Keep.size K47
  have hsz48 := Keep.size hk43
  replace h2 := DLd.keep h2 hk43 (fun q hq hs => hdis q hs hq)
  replace hK0 := Keep.fresh hK0 hk43 (fun i hi hs => by rcases hrF1 i hs with h | h; exact .inl h; (exfalso; omega))
  have lt49 := Led.lt ho45
  have rel50 : ∀ q, F44 q → F1 q ∨ w.heap.size ≤ q := fun q hq => by rcases hfr46 q hq with h | h; exact hrF1 q h; exact .inr (by omega)
  have dis51 : ∀ q, F44 q → ¬ F2 q := fun q h1 h2 => by rcases hfr46 q h1 with h | h; exact hdis q h h2; (have h4 := ltF2 q h2; omega)
  refine Gn [8, 9, 10, 11, 12, 13] [5, 35, 36, 37] <| Mc 1 (nt z.a) qhb1 (by show ¬ (b1 ≠ b1); omega) rfl <| Gn [10, 11, 12, 13] [35, 36, 38, 39] <| Mc 3 (nt z.n) qhb1 (by show ¬ (b1 ≠ b1); omega) rfl <| Jg (reserve6_spec F2 x xs cs z.a z.n _ h2) ?_
  rintro _ w54 ⟨rfl, ⟨F56, ho57, hfr58⟩, hk55⟩
  refine ⟨_, rfl, ?_⟩
  have hsz59 := Keep.size hk55
  replace hK0 := Keep.fresh hK0 hk55 (fun i hi hs => by rcases hrF2 i hs with h | h; exact .inr h; (exfalso; omega))
  replace ho45 := ho45.keep hk55 (fun q hq hs => (fun q h1 h2 => dis51 q h2 h1) q hs hq)
  have lt60 := DLd.lt ho57
  have rel61 : ∀ q, F56 q → F2 q ∨ w.heap.size ≤ q := fun q hq => by rcases hfr58 q hq with h | h; exact hrF2 q h; exact .inr (by omega)
  have dis62 : ∀ q, F56 q → ¬ F44 q := fun q h1 h2 => by rcases hfr58 q h1 with h | h; exact (fun q h1 h2 => dis51 q h2 h1) q h h2; (have h4 := lt49 q h2; omega)
  refine Gn [] [6] <| GI_end <| X_then <| V_ret <| X_ret_block <| X_ret_then ?_
  have hE : actX z xs cs = (resX xs cs z.a z.n) := by unfold actX; rw [if_neg hc3]; rw [if_pos hc33]
  have hE2 : actC z cs = cs := by unfold actC; rw [if_neg hc3]; rw [if_pos hc33]
  rw [hE, hE2]
  exact Xr (.bool (decide (spendsE xs cs z.a z.n = spendsE xs cs z.a z.n))) ⟨by simp, ⟨F44, F56, ho45, ho57, rel50, rel61, (fun q h1 h2 => dis62 q h2 h1)⟩, hK0⟩
 refine Vn [0, 1, 5, 8, 43] <| Vi (z.k = 3) (fun hc63 => ?_) (fun hc63 => ?_)
 ·
  refine V_seq <| Vd1 (acts [5, 11]) (fun q => q ≠ b1) [0, 1, 2, 3, 4, 5, 6, 7, 8, 9, 10, 11, 12, 13] fun w65 hk64 he66 K69 _ => ?_
  replace hb1 := hb1.k0 hk64
  replace h1 := h1.keep hk64 nk
  replace h2 := DLd.keep h2 hk64 nk
  replace hK0 := hK0.tn hk64
  have qhb1 := hb1
  refine Gn [2, 3, 4, 5, 6, 7, 8, 9, 10, 11, 12, 13] [1, 5, 45, 46] <| Mc 1 (nt z.a) qhb1 (by show ¬ (b1 ≠ b1); omega) rfl <| Gn [4, 5, 6, 7, 8, 9, 10, 11, 12, 13] [1, 5, 45, 47, 48] <| Mc 3 (nt z.n) qhb1 (by show ¬ (b1 ≠ b1); omega) rfl <| Hg (release_spec F1 l xs cs z.a z.n _ h1) ?_
  rintro _ w72 ⟨rfl, ⟨F74, ho75, hfr76⟩, hk73⟩
  have K77 := Keep.fresh K69 hk73 (by intro i hi hs; have h2 := ltF1 i hs; show i ≠ b1; omega)
  refine ⟨_, rfl, K77, ?_⟩
  have hzK77 := Keep.size K77
  have hsz78 := Keep.size hk73
  replace h2 := DLd.keep h2 hk73 (fun q hq hs => hdis q hs hq)
  replace hK0 := Keep.fresh hK0 hk73 (fun i hi hs => by rcases hrF1 i hs with h | h; exact .inl h; (exfalso; omega))
  have lt79 := Led.lt ho75
  have rel80 : ∀ q, F74 q → F1 q ∨ w.heap.size ≤ q := fun q hq => by rcases hfr76 q hq with h | h; exact hrF1 q h; exact .inr (by omega)
  have dis81 : ∀ q, F74 q → ¬ F2 q := fun q h1 h2 => by rcases hfr76 q h1 with h | h; exact hdis q h h2; (have h4 := ltF2 q h2; omega)
  refine Gn [8, 9, 10, 11, 12, 13] [5, 50, 51, 52] <| Mc 1 (nt z.a) qhb1 (by show ¬ (b1 ≠ b1); omega) rfl <| Gn [10, 11, 12, 13] [50, 51, 53, 54] <| Mc 3 (nt z.n) qhb1 (by show ¬ (b1 ≠ b1); omega) rfl <| Jg (release6_spec F2 x xs cs z.a z.n _ h2) ?_
  rintro _ w84 ⟨rfl, ⟨F86, ho87, hfr88⟩, hk85⟩
  refine ⟨_, rfl, ?_⟩
  have hsz89 := Keep.size hk85
  replace hK0 := Keep.fresh hK0 hk85 (fun i hi hs => by rcases hrF2 i hs with h | h; exact .inr h; (exfalso; omega))
  replace ho75 := ho75.keep hk85 (fun q hq hs => (fun q h1 h2 => dis81 q h2 h1) q hs hq)
  have lt90 := DLd.lt ho87
  have rel91 : ∀ q, F86 q → F2 q ∨ w.heap.size ≤ q := fun q hq => by rcases hfr88 q hq with h | h; exact hrF2 q h; exact .inr (by omega)
  have dis92 : ∀ q, F86 q → ¬ F74 q := fun q h1 h2 => by rcases hfr88 q h1 with h | h; exact (fun q h1 h2 => dis81 q h2 h1) q h h2; (have h4 := lt79 q h2; omega)
  refine Gn [] [6] <| GI_end <| X_then <| V_ret <| X_ret_block <| X_ret_then ?_
  have hE : actX z xs cs = (relX xs z.a z.n) := by unfold actX; rw [if_neg hc3]; rw [if_neg hc33]; rw [if_pos hc63]
  have hE2 : actC z cs = cs := by unfold actC; rw [if_neg hc3]; rw [if_neg hc33]; rw [if_pos hc63]
  rw [hE, hE2]
  exact Xr (.bool (decide (tkN xs z.a z.n = tkN xs z.a z.n))) ⟨by simp, ⟨F74, F86, ho75, ho87, rel80, rel91, (fun q h1 h2 => dis92 q h2 h1)⟩, hK0⟩
 refine Vn [0, 1, 5, 8, 58] <| Vi (z.k = 4) (fun hc93 => ?_) (fun hc93 => ?_)
 ·
  refine V_seq <| Vd1 (acts [5, 11]) (fun q => q ≠ b1) [0, 1, 2, 3, 4, 5, 6, 7, 8, 9, 10, 11, 12, 13] fun w95 hk94 he96 K99 _ => ?_
  replace hb1 := hb1.k0 hk94
  replace h1 := h1.keep hk94 nk
  replace h2 := DLd.keep h2 hk94 nk
  replace hK0 := hK0.tn hk94
  have qhb1 := hb1
  refine Gn [2, 3, 4, 5, 6, 7, 8, 9, 10, 11, 12, 13] [1, 5, 60, 61] <| Mc 1 (nt z.a) qhb1 (by show ¬ (b1 ≠ b1); omega) rfl <| Gn [4, 5, 6, 7, 8, 9, 10, 11, 12, 13] [1, 5, 60, 62, 63] <| Mc 3 (nt z.n) qhb1 (by show ¬ (b1 ≠ b1); omega) rfl <| Hg (slash_spec F1 l xs cs z.a z.n _ h1) ?_
  rintro _ w102 ⟨rfl, ⟨F104, ho105, hfr106⟩, hk103⟩
  have K107 := Keep.fresh K99 hk103 (by intro i hi hs; have h2 := ltF1 i hs; show i ≠ b1; omega)
  refine ⟨_, rfl, K107, ?_⟩
  have hzK107 := Keep.size K107
  have hsz108 := Keep.size hk103
  replace h2 := DLd.keep h2 hk103 (fun q hq hs => hdis q hs hq)
  replace hK0 := Keep.fresh hK0 hk103 (fun i hi hs => by rcases hrF1 i hs with h | h; exact .inl h; (exfalso; omega))
  have lt109 := Led.lt ho105
  have rel110 : ∀ q, F104 q → F1 q ∨ w.heap.size ≤ q := fun q hq => by rcases hfr106 q hq with h | h; exact hrF1 q h; exact .inr (by omega)
  have dis111 : ∀ q, F104 q → ¬ F2 q := fun q h1 h2 => by rcases hfr106 q h1 with h | h; exact hdis q h h2; (have h4 := ltF2 q h2; omega)
  refine Gn [8, 9, 10, 11, 12, 13] [5, 65, 66, 67] <| Mc 1 (nt z.a) qhb1 (by show ¬ (b1 ≠ b1); omega) rfl <| Gn [10, 11, 12, 13] [65, 66, 68, 69] <| Mc 3 (nt z.n) qhb1 (by show ¬ (b1 ≠ b1); omega) rfl <| Jg (slash6_spec F2 x xs cs z.a z.n _ h2) ?_
  rintro _ w114 ⟨rfl, ⟨F116, ho117, hfr118⟩, hk115⟩
  refine ⟨_, rfl, ?_⟩
  have hsz119 := Keep.size hk115
  replace hK0 := Keep.fresh hK0 hk115 (fun i hi hs => by rcases hrF2 i hs with h | h; exact .inr h; (exfalso; omega))
  replace ho105 := ho105.keep hk115 (fun q hq hs => (fun q h1 h2 => dis111 q h2 h1) q hs hq)
  have lt120 := DLd.lt ho117
  have rel121 : ∀ q, F116 q → F2 q ∨ w.heap.size ≤ q := fun q hq => by rcases hfr118 q hq with h | h; exact hrF2 q h; exact .inr (by omega)
  have dis122 : ∀ q, F116 q → ¬ F104 q := fun q h1 h2 => by rcases hfr118 q h1 with h | h; exact (fun q h1 h2 => dis111 q h2 h1) q h h2; (have h4 := lt109 q h2; omega)
  refine Gn [] [6] <| GI_end <| X_then <| V_ret <| X_ret_block <| X_ret_then ?_
  have hE : actX z xs cs = (slX xs z.a z.n) := by unfold actX; rw [if_neg hc3]; rw [if_neg hc33]; rw [if_neg hc63]; rw [if_pos hc93]
  have hE2 : actC z cs = cs := by unfold actC; rw [if_neg hc3]; rw [if_neg hc33]; rw [if_neg hc63]; rw [if_pos hc93]
  rw [hE, hE2]
  exact Xr (.bool (decide (tkN xs z.a z.n = tkN xs z.a z.n))) ⟨by simp, ⟨F104, F116, ho105, ho117, rel110, rel121, (fun q h1 h2 => dis122 q h2 h1)⟩, hK0⟩
 refine Vn [0, 1, 5, 8, 73] <| Vi (z.k = 5) (fun hc123 => ?_) (fun hc123 => ?_)
 ·
  refine Vr <| On 2 [1, 5, 75, 76] <| Lr 1 (nt z.a) hb1 <| On 4 [1, 5, 75, 77, 78] <| Lr 2 (nt z.b) hb1 <| On 6 [1, 5, 75, 77, 79, 80] <| Lr 3 (nt z.n) hb1 <| Kg (lock_spec F1 l xs cs z.a z.b z.n _ h1 (by omega)) ?_
  rintro _ w126 ⟨rfl, ⟨F128, ho129, hfr130⟩, hk127⟩
  refine ⟨_, rfl, ?_⟩
  have hsz131 := Keep.size hk127
  replace hb1 := hb1.keep hk127 (fun hs => by have h2 := ltF1 _ hs; omega)
  replace h2 := DLd.keep h2 hk127 (fun q hq hs => hdis q hs hq)
  replace hK0 := Keep.fresh hK0 hk127 (fun i hi hs => by rcases hrF1 i hs with h | h; exact .inl h; (exfalso; omega))
  have lt132 := Led.lt ho129
  have rel133 : ∀ q, F128 q → F1 q ∨ w.heap.size ≤ q := fun q hq => by rcases hfr130 q hq with h | h; exact hrF1 q h; exact .inr (by omega)
  have dis134 : ∀ q, F128 q → ¬ F2 q := fun q h1 h2 => by rcases hfr130 q h1 with h | h; exact hdis q h h2; (have h4 := ltF2 q h2; omega)
  refine Oer <| On 2 [5, 83, 84] <| Lr 1 (nt z.a) hb1 <| On 4 [5, 83, 85, 86] <| Lr 2 (nt z.b) hb1 <| On 6 [83, 85, 87, 88] <| Lr 3 (nt z.n) hb1 <| Kg (lock6_spec F2 x xs cs z.a z.b z.n _ h2 (by omega)) ?_
  rintro _ w137 ⟨rfl, ⟨F139, ho140, hfr141⟩, hk138⟩
  refine ⟨_, rfl, ?_⟩
  have hsz142 := Keep.size hk138
  replace hK0 := Keep.fresh hK0 hk138 (fun i hi hs => by rcases hrF2 i hs with h | h; exact .inr h; (exfalso; omega))
  replace ho129 := ho129.keep hk138 (fun q hq hs => (fun q h1 h2 => dis134 q h2 h1) q hs hq)
  have lt143 := DLd.lt ho140
  have rel144 : ∀ q, F139 q → F2 q ∨ w.heap.size ≤ q := fun q hq => by rcases hfr141 q hq with h | h; exact hrF2 q h; exact .inr (by omega)
  have dis145 : ∀ q, F139 q → ¬ F128 q := fun q h1 h2 => by rcases hfr141 q h1 with h | h; exact (fun q h1 h2 => dis134 q h2 h1) q h h2; (have h4 := lt132 q h2; omega)
  refine Oer <| Oen [6] <| V_ret <| X_ret_block <| X_ret_then ?_
  have hE : actX z xs cs = xs := by unfold actX; rw [if_neg hc3]; rw [if_neg hc33]; rw [if_neg hc63]; rw [if_neg hc93]; rw [if_pos hc123]
  have hE2 : actC z cs = (lockC cs z.a z.b z.n) := by unfold actC; rw [if_neg hc3]; rw [if_neg hc33]; rw [if_neg hc63]; rw [if_neg hc93]; rw [if_pos hc123]
  rw [hE, hE2]
  exact Xr (.bool true) ⟨by simp, ⟨F128, F139, ho129, ho140, rel133, rel144, (fun q h1 h2 => dis145 q h2 h1)⟩, hK0⟩
 refine Vn [0, 1, 5, 91] <| Vi (z.k = 6) (fun hc146 => ?_) (fun hc146 => ?_)
 ·
  refine V_seq <| Vd1 (acts [5, 11]) (fun q => q ≠ b1) [0, 1, 2, 3, 4, 5, 6, 7, 8, 9, 10, 11, 12, 13] fun w148 hk147 he149 K152 _ => ?_
  replace hb1 := hb1.k0 hk147
  replace h1 := h1.keep hk147 nk
  replace h2 := DLd.keep h2 hk147 nk
  replace hK0 := hK0.tn hk147
  have qhb1 := hb1
  refine Gn [2, 3, 4, 5, 6, 7, 8, 9, 10, 11, 12, 13] [1, 5, 93, 94] <| Mc 1 (nt z.a) qhb1 (by show ¬ (b1 ≠ b1); omega) rfl <| Gn [4, 5, 6, 7, 8, 9, 10, 11, 12, 13] [1, 5, 93, 95, 96] <| Mc 3 (nt z.n) qhb1 (by show ¬ (b1 ≠ b1); omega) rfl <| Hg (mint_spec F1 l xs cs z.a z.n _ h1) ?_
  rintro _ w155 ⟨rfl, ⟨F157, ho158, hfr159⟩, hk156⟩
  have K160 := Keep.fresh K152 hk156 (by intro i hi hs; have h2 := ltF1 i hs; show i ≠ b1; omega)
  refine ⟨_, rfl, K160, ?_⟩
  have hzK160 := Keep.size K160
  have hsz161 := Keep.size hk156
  replace h2 := DLd.keep h2 hk156 (fun q hq hs => hdis q hs hq)
  replace hK0 := Keep.fresh hK0 hk156 (fun i hi hs => by rcases hrF1 i hs with h | h; exact .inl h; (exfalso; omega))
  have lt162 := Led.lt ho158
  have rel163 : ∀ q, F157 q → F1 q ∨ w.heap.size ≤ q := fun q hq => by rcases hfr159 q hq with h | h; exact hrF1 q h; exact .inr (by omega)
  have dis164 : ∀ q, F157 q → ¬ F2 q := fun q h1 h2 => by rcases hfr159 q h1 with h | h; exact hdis q h h2; (have h4 := ltF2 q h2; omega)
  refine Gn [8, 9, 10, 11, 12, 13] [5, 98, 99, 100] <| Mc 1 (nt z.a) qhb1 (by show ¬ (b1 ≠ b1); omega) rfl <| Gn [10, 11, 12, 13] [98, 99, 101, 102] <| Mc 3 (nt z.n) qhb1 (by show ¬ (b1 ≠ b1); omega) rfl <| Jg (mint6_spec F2 x xs cs z.a z.n _ h2) ?_
  rintro _ w167 ⟨rfl, ⟨F169, ho170, hfr171⟩, hk168⟩
  refine ⟨_, rfl, ?_⟩
  have hsz172 := Keep.size hk168
  replace hK0 := Keep.fresh hK0 hk168 (fun i hi hs => by rcases hrF2 i hs with h | h; exact .inr h; (exfalso; omega))
  replace ho158 := ho158.keep hk168 (fun q hq hs => (fun q h1 h2 => dis164 q h2 h1) q hs hq)
  have lt173 := DLd.lt ho170
  have rel174 : ∀ q, F169 q → F2 q ∨ w.heap.size ≤ q := fun q hq => by rcases hfr171 q hq with h | h; exact hrF2 q h; exact .inr (by omega)
  have dis175 : ∀ q, F169 q → ¬ F157 q := fun q h1 h2 => by rcases hfr171 q h1 with h | h; exact (fun q h1 h2 => dis164 q h2 h1) q h h2; (have h4 := lt162 q h2; omega)
  refine Gn [] [6] <| GI_end <| X_then <| V_ret <| X_ret_block <| X_ret_then ?_
  have hE : actX z xs cs = (mintX xs z.a z.n) := by unfold actX; rw [if_neg hc3]; rw [if_neg hc33]; rw [if_neg hc63]; rw [if_neg hc93]; rw [if_neg hc123]; rw [if_pos hc146]
  have hE2 : actC z cs = cs := by unfold actC; rw [if_neg hc3]; rw [if_neg hc33]; rw [if_neg hc63]; rw [if_neg hc93]; rw [if_neg hc123]
  rw [hE, hE2]
  exact Xr (.bool (decide (mintE xs z.a z.n = mintE xs z.a z.n))) ⟨by simp, ⟨F157, F169, ho158, ho170, rel163, rel174, (fun q h1 h2 => dis175 q h2 h1)⟩, hK0⟩
 refine V_skip <| X_block <| X_then <| V_seq <| Vd1 (acts [5, 11]) (fun q => q ≠ b1) [0, 1, 2, 3, 4, 5, 6, 7, 8, 9, 10, 11, 12, 13] fun w177 hk176 he178 K181 _ => ?_
 replace hb1 := hb1.k0 hk176
 replace h1 := h1.keep hk176 nk
 replace h2 := DLd.keep h2 hk176 nk
 replace hK0 := hK0.tn hk176
 have qhb1 := hb1
 refine Gn [2, 3, 4, 5, 6, 7, 8, 9, 10, 11, 12, 13] [1, 5, 106, 107] <| Mc 1 (nt z.a) qhb1 (by show ¬ (b1 ≠ b1); omega) rfl <| Gn [4, 5, 6, 7, 8, 9, 10, 11, 12, 13] [1, 5, 106, 108, 109] <| Mc 3 (nt z.n) qhb1 (by show ¬ (b1 ≠ b1); omega) rfl <| Hg (burn_spec F1 l xs cs z.a z.n _ h1) ?_
 rintro _ w184 ⟨rfl, ⟨F186, ho187, hfr188⟩, hk185⟩
 have K189 := Keep.fresh K181 hk185 (by intro i hi hs; have h2 := ltF1 i hs; show i ≠ b1; omega)
 refine ⟨_, rfl, K189, ?_⟩
 have hzK189 := Keep.size K189
 have hsz190 := Keep.size hk185
 replace h2 := DLd.keep h2 hk185 (fun q hq hs => hdis q hs hq)
 replace hK0 := Keep.fresh hK0 hk185 (fun i hi hs => by rcases hrF1 i hs with h | h; exact .inl h; (exfalso; omega))
 have lt191 := Led.lt ho187
 have rel192 : ∀ q, F186 q → F1 q ∨ w.heap.size ≤ q := fun q hq => by rcases hfr188 q hq with h | h; exact hrF1 q h; exact .inr (by omega)
 have dis193 : ∀ q, F186 q → ¬ F2 q := fun q h1 h2 => by rcases hfr188 q h1 with h | h; exact hdis q h h2; (have h4 := ltF2 q h2; omega)
 refine Gn [8, 9, 10, 11, 12, 13] [5, 111, 112, 113] <| Mc 1 (nt z.a) qhb1 (by show ¬ (b1 ≠ b1); omega) rfl <| Gn [10, 11, 12, 13] [111, 112, 114, 115] <| Mc 3 (nt z.n) qhb1 (by show ¬ (b1 ≠ b1); omega) rfl <| Jg (burn6_spec F2 x xs cs z.a z.n _ h2) ?_
 rintro _ w196 ⟨rfl, ⟨F198, ho199, hfr200⟩, hk197⟩
 refine ⟨_, rfl, ?_⟩
 have hsz201 := Keep.size hk197
 replace hK0 := Keep.fresh hK0 hk197 (fun i hi hs => by rcases hrF2 i hs with h | h; exact .inr h; (exfalso; omega))
 replace ho187 := ho187.keep hk197 (fun q hq hs => (fun q h1 h2 => dis193 q h2 h1) q hs hq)
 have lt202 := DLd.lt ho199
 have rel203 : ∀ q, F198 q → F2 q ∨ w.heap.size ≤ q := fun q hq => by rcases hfr200 q hq with h | h; exact hrF2 q h; exact .inr (by omega)
 have dis204 : ∀ q, F198 q → ¬ F186 q := fun q h1 h2 => by rcases hfr200 q h1 with h | h; exact (fun q h1 h2 => dis193 q h2 h1) q h h2; (have h4 := lt191 q h2; omega)
 refine Gn [] [6] <| GI_end <| X_then <| V_ret ?_
 have hE : actX z xs cs = (burnX xs cs z.a z.n) := by unfold actX; rw [if_neg hc3]; rw [if_neg hc33]; rw [if_neg hc63]; rw [if_neg hc93]; rw [if_neg hc123]; rw [if_neg hc146]
 have hE2 : actC z cs = cs := by unfold actC; rw [if_neg hc3]; rw [if_neg hc33]; rw [if_neg hc63]; rw [if_neg hc93]; rw [if_neg hc123]
 rw [hE, hE2]
 exact Xr (.bool (decide (spendsE xs cs z.a z.n = spendsE xs cs z.a z.n))) ⟨by simp, ⟨F186, F198, ho187, ho199, rel192, rel203, (fun q h1 h2 => dis204 q h2 h1)⟩, hK0⟩
theorem alike_spec (F1 F2 : Nat → Prop) (l x : Nat) (xs : List Acc) (cs : List Ci) (w : World) (h1 : Led F1 w l xs cs) (h2 : DLd F2 w x xs cs) : Calls Try.prog 30 #[pt l, pt x] w (rk_ w (.bool true)) := by
 have ltF1 := Led.lt h1
 have ltF2 := DLd.lt h2
 have hglt := ltF1 _ (Led.at_ h1)
 have hxlt := ltF2 _ (DLd.at_ h2)
 have hK0 : Keep none_ w w := Keep.refl _ _
 have hzhK0 := Keep.size hK0
 refine eV ?_
 refine Vr <| On 1 [0, 1] <| Oe <| V_seq <| Vn [0, 1, 5] <| V_block <| Vp [(0, pt l), (1, pt x), (5, nt (-1))] <| V_loop (fun k wI e => ∃ i : Nat, ∃ a : Int, (k + i = 12) ∧ (a = (i : Int) - 1) ∧ Keep none_ w wI ∧ e = [(0, pt l), (1, pt x), (5, nt a)]) 12 ⟨0, -1, by omega, by omega, Keep.refl _ _, rfl⟩ ?_
 rintro k2 w1 _ ⟨i, a, hki, ha, hk3, rfl⟩
 have hsz4 := Keep.size hk3
 replace h1 := h1.keep hk3 nk
 replace h2 := DLd.keep h2 hk3 nk
 replace hK0 := hK0.tn hk3
 have hzhk3 := Keep.size hk3
 refine V_seq <| Vn [0, 1, 5, 7] <| Vi (a ≤ 10) (fun hc5 => ?_) (fun hc5 => ?_)
 ·
  refine Vsk <| V_seq <| V_block <| Vr <| On 2 [0, 1, 5, 10, 11] <| Kk (free_spec F1 l xs cs a _ h1) fun w6 hk7 _ => ?_
  replace h1 := h1.keep hk7 nk
  replace h2 := DLd.keep h2 hk7 nk
  replace hk3 := hk3.tn hk7
  refine On 5 [0, 1, 5, 12, 13, 14] <| Kk (free6_spec F2 x xs cs a _ h2) fun w9 hk10 _ => ?_
  replace h1 := h1.keep hk10 nk
  replace h2 := DLd.keep h2 hk10 nk
  replace hk3 := hk3.tn hk10
  refine On 8 [0, 1, 5, 17] <| Oq (u := .bool (!(decide ((acct xs a).free = (acct xs a).free)))) (v := .bool false) 17 (by rw [decide_eq_true (rfl : (acct xs a).free = (acct xs a).free)]; rfl) <| On 10 [0, 1, 5, 17, 18, 19] <| Kk (held_spec F1 l xs cs a _ h1) fun w13 hk14 _ => ?_
  replace h1 := h1.keep hk14 nk
  replace h2 := DLd.keep h2 hk14 nk
  replace hk3 := hk3.tn hk14
  refine On 13 [0, 1, 5, 17, 18, 19, 20, 21, 22] <| Kk (held6_spec F2 x xs cs a _ h2) fun w16 hk17 _ => ?_
  replace h1 := h1.keep hk17 nk
  replace h2 := DLd.keep h2 hk17 nk
  replace hk3 := hk3.tn hk17
  refine On 17 [0, 1, 5, 18, 19, 20, 21, 22, 23, 24, 26] <| Oq (u := .bool (!(decide ((acct xs a).held = (acct xs a).held)))) (v := .bool false) 26 (by rw [decide_eq_true (rfl : (acct xs a).held = (acct xs a).held)]; rfl) <| On 19 [0, 1, 5, 18, 19, 20, 21, 22, 23, 24, 26, 27, 28] <| Kk (locked_spec F1 l xs cs a _ h1) fun w20 hk21 _ => ?_
  replace h2 := DLd.keep h2 hk21 nk
  replace hk3 := hk3.tn hk21
  refine On 22 [0, 1, 5, 18, 19, 20, 21, 22, 23, 24, 26, 27, 28, 29, 30, 31] <| Kk (locked6_spec F2 x xs cs a _ h2) fun w23 hk24 _ => ?_
  replace hk3 := hk3.tn hk24
  refine Oen [0, 1, 5, 18, 19, 20, 21, 22, 23, 24, 27, 28, 29, 30, 31, 32, 33, 34] <| Vq (u := .bool (!(decide (lockedL cs a = lockedL cs a)))) (v := .bool false) 34 (by rw [decide_eq_true (rfl : lockedL cs a = lockedL cs a)]; rfl) <| Vf <| V_skip <| X_block <| X_then <| V_region ?_
  have hw27 : IntKind.i64.wrap (a + 1) = a + 1 := (wrap64_id (by omega) (by omega)).trans (by omega)
  refine On 2 [0, 1, 9, 18, 19, 20, 21, 22, 23, 24, 27, 28, 29, 30, 31, 32, 33] <| Oq (u := nt (IntKind.i64.wrap (a + 1))) (v := nt (a + 1)) 9 (by rw [hw27]) <| Os 3 [(0, pt l), (1, pt x), (5, nt (a + 1)), (18, pt l), (19, nt a), (20, nt ((acct xs a).held)), (21, pt x), (22, nt a), (23, nt ((acct xs a).held)), (24, .bool (!(decide ((acct xs a).held = (acct xs a).held)))), (27, pt l), (28, nt a), (29, nt (lockedL cs a)), (30, pt x), (31, nt a), (32, nt (lockedL cs a)), (33, .bool (!(decide (lockedL cs a = lockedL cs a))))] <| OI_end rfl ?_
  exact V_again (k2 - 1) (by omega) [(0, pt l), (1, pt x), (5, nt (a + 1))] rfl ⟨i + 1, a + 1, by omega, by omega, hk3, rfl⟩
 refine V_exit <| X_exit_then <| X_exit_then <| X_exit_here <| X_then <| Vr <| On 1 [1, 35] <| Kk (issued_spec F1 l xs cs _ h1) fun w28 hk29 _ => ?_
 replace h2 := DLd.keep h2 hk29 nk
 replace hK0 := hK0.tn hk29
 refine On 3 [36, 37] <| Kk (issued6_spec F2 x xs cs _ h2) fun w31 hk32 _ => ?_
 replace hK0 := hK0.tn hk32
 exact Oen [4] <| Rr (.bool (decide (tot xs = tot xs))) ⟨by simp, hK0⟩
end Go.Al

namespace Go.Al
open Go Go.RowKit Go.Proofs
theorem lift_int (x : List Value) (h : Flat [.int .i64] x) : ∃ y : Int, intc y = x := by
  cases x with
  | nil => exact h.elim
  | cons v l =>
    cases l with
    | nil => obtain ⟨⟨n, rfl, _⟩, _⟩ := h; exact ⟨n, rfl⟩
    | cons u l => exact h.2.elim
theorem new6_yes (A : Option Addr) (cap : Nat) (fs : List Int) (w : World) (hA : ArgT w 1 intc A cap fs) (hn : fs.length ≤ 100000) (hok : okP fs) : Calls Try.prog 28 #[.slice A fs.length cap] w fun e w' => ∃ x F, e = .returned (.tuple #[pt x, nt 0]) ∧ DLd F w' x (newX fs 10) [] ∧ Keep none_ w w' ∧ (∀ q, F q → w.heap.size ≤ q) :=
  (new6_spec A cap fs w hA (by omega)).mono (by
    rintro e w' (⟨_, h⟩ | ⟨h, _⟩)
    · exact h
    · exact absurd hok h)
theorem new6_no (A : Option Addr) (cap : Nat) (fs : List Int) (w : World) (hA : ArgT w 1 intc A cap fs) (hn : fs.length ≤ 100000) (hok : ¬ okP fs) : Calls Try.prog 28 #[.slice A fs.length cap] w (rk_ w (.tuple #[.pointer none, nt 1])) :=
  (new6_spec A cap fs w hA (by omega)).mono (by
    rintro e w' (⟨h, _⟩ | ⟨_, h⟩)
    · exact absurd h hok
    · exact h)
set_option maxHeartbeats 4000000 in
theorem walk_LedgerPlays_yes (A B : Option Addr) (cap capb : Nat) (fs : List Int) (xs : List Ac4) (w : World) (hA0 : ArgT w 1 intc A cap fs) (hB0 : ArgT w 4 Ac4.cells B capb xs) (hcap : fs.length ≤ 9223372036854775807) (hcapb : xs.length ≤ 9223372036854775807) (hok : okP fs) : Calls Try.prog 11 #[.slice A fs.length cap, .slice B xs.length capb] w (rk_ w (.bool true)) := by
 have hA := hA0
 have hB := hB0
 have hK0 : Keep none_ w w := Keep.refl _ _
 have hzhK0 := Keep.size hK0
 refine eV ?_
 refine Vr <| On 1 [0, 1] <| Oe <| V_seq <| Vr <| On 4 [0, 1, 17] ?_
 by_cases hg1 : (fs.length : Int) > 40
 ·
  exact Dt 17 hg1 <| Oen [0, 1, 21] <| Vo <| Vn [4] <| Rt <| Xr (.bool true) ⟨rfl, hK0⟩
 refine Df 17 hg1 <| Oen [0, 1, 21] <| Vi ((xs.length : Int) > 10000) (fun hc2 => ?_) (fun hc2 => ?_)
 ·
  exact Vn [4] <| Rt <| Xr (.bool true) ⟨rfl, hK0⟩
 refine Vsk <| Vr <| On 1 [0, 1, 23] <| Kg (new_ok A cap fs _ hA (by omega) hok) ?_
 rintro _ w5 ⟨l7, F8, rfl, ho9, hk6, hge10⟩
 refine ⟨_, rfl, ?_⟩
 have hsz11 := Keep.size hk6
 replace hA := ArgT.keep0 hA hk6
 replace hB := ArgT.keep0 hB hk6
 replace hK0 := hK0.tn hk6
 have own12 : ∀ q, F8 q → w.heap.size ≤ q := fun q hq => by have h1 := hge10 q hq; omega
 have lt13 := Led.lt ho9
 have hl7lt : l7 < w5.heap.size := Led.lt ho9 _ (Led.at_ ho9)
 have hl7ge := hge10 _ (Led.at_ ho9)
 refine On 7 [0, 1, 5, 6] <| Oer <| On 1 [1, 5, 6, 28] <| Kg (new6_yes A cap fs _ hA (by omega) hok) ?_
 rintro _ w14 ⟨x16, F17, rfl, ho18, hk15, hge19⟩
 refine ⟨_, rfl, ?_⟩
 have hsz20 := Keep.size hk15
 replace hB := ArgT.keep0 hB hk15
 replace hK0 := hK0.tn hk15
 replace ho9 := ho9.keep hk15 nk
 have own21 : ∀ q, F17 q → w5.heap.size ≤ q := fun q hq => by have h1 := hge19 q hq; omega
 have lt22 := DLd.lt ho18
 have dis23 : ∀ q, F17 q → ¬ F8 q := fun q h1 h2 => by have h3 := hge19 q h1; have h4 := lt13 q h2; omega
 have hx16lt : x16 < w14.heap.size := DLd.lt ho18 _ (DLd.at_ ho18)
 have hx16ge := hge19 _ (DLd.at_ ho18)
 refine On 7 [1, 5, 6, 7, 8] <| Oe <| V_seq <| Vn [1, 5, 7, 8, 41] <| Vf <| Vsk <| V_seq <| Vn [1, 5, 7, 8, 9] <| V_block <| Vp [(1, .slice B xs.length capb), (5, pt l7), (7, pt x16), (8, nt 0), (9, nt 0)] <| V_loop (fun k wI e => ∃ i : Nat, ∃ X : List Acc, ∃ C : List Ci, ∃ F24 : Nat → Prop, ∃ F28 : Nat → Prop, (k + i = min xs.length 100) ∧ (i ≤ 100) ∧ (C.length ≤ i) ∧ (Led F24 wI l7 X C) ∧ (∀ q, F24 q → w.heap.size ≤ q) ∧ (∀ q, F24 q → F8 q ∨ w14.heap.size ≤ q) ∧ (DLd F28 wI x16 X C) ∧ (∀ q, F28 q → w5.heap.size ≤ q) ∧ (∀ q, F28 q → F17 q ∨ w14.heap.size ≤ q) ∧ (∀ q, F28 q → ¬ F24 q) ∧ Keep (fun q => F8 q ∨ F17 q) w14 wI ∧ e = [(1, .slice B xs.length capb), (5, pt l7), (7, pt x16), (8, nt 0), (9, nt (i : Int))]) (min xs.length 100) ⟨0, (newX fs 10), [], F8, F17, by omega, by omega, by simp, ho9, (fun q hq => by have h1 := own12 q hq; have h2 := lt13 q hq; omega), fun q h => .inl h, ho18, (fun q hq => by have h1 := own21 q hq; have h2 := lt22 q hq; omega), fun q h => .inl h, dis23, Keep.refl _ _, rfl⟩ ?_
 rintro k34 w33 _ ⟨i, X, C, F24, F28, hki, hi9, hcl, ho25, own26, rel27, ho29, own30, rel31, dis32, hk35, rfl⟩
 have hsz36 := Keep.size hk35
 replace hB := ArgT.keep hB hk35 hB0 (fun k hk hs => by rcases hs with hs | hs; (have h1 := own12 k hs; have h2 := lt13 k hs; omega); (have h1 := own21 k hs; have h2 := lt22 k hs; omega))
 replace hK0 := Keep.fresh hK0 hk35 (by intro i hi hs; rcases hs with hs | hs; (have h1 := own12 i hs; have h2 := lt13 i hs; omega); (have h1 := own21 i hs; have h2 := lt22 i hs; omega))
 have hzhk35 := Keep.size hk35
 have lt37 := Led.lt ho25
 have hl7lt : l7 < w33.heap.size := Led.lt ho25 _ (Led.at_ ho25)
 have lt38 := DLd.lt ho29
 have hx16lt : x16 < w33.heap.size := DLd.lt ho29 _ (DLd.at_ ho29)
 refine V_seq <| Vr <| On 9 [1, 5, 7, 8, 9, 45, 46, 47, 48, 50] ?_
 by_cases hg39 : (i : Int) < (xs.length : Int)
 ·
  refine Dt 50 hg39 <| Oen [1, 5, 7, 8, 9, 45, 46, 47, 48, 51, 52, 53] <| Vi ((i : Int) < 100) (fun hc40 => ?_) (fun hc40 => ?_)
  ·
   refine Vsk <| V_seq <| V_block <| Vr <| On 4 [1, 5, 7, 8, 9, 45, 46, 47, 48, 51, 52, 56, 57, 58, 59] ?_
   obtain ⟨b41, o41, L41, rfl, hat41⟩ := ArgT.open_ hB (by first | omega | (simp only [List.length_map]; omega) | (simp; done) | (simp; omega))
   have hb41lt0 := ArgT.lt hB0 (by first | omega | (simp only [List.length_map]; omega) | (simp; done) | (simp; omega))
   have hb41lt := hat41.blk.lt
   refine Oi (b := b41) (o := o41) (len := xs.length) (cap := capb) (j := i) (some 60) 38 (.tmp 58) (.tmp 59) 40 4 32 .i64 ?_
   obtain ⟨x42, hx43⟩ : ∃ x, xs[i]? = some x := ⟨_, List.getElem?_eq_getElem (by first | omega | (simp only [List.length_map]; omega))⟩
   refine OI_aggR 40 (.tmp 60) (o41 + i * 4) (Ac4.cells x42) (some 61) (by kernel_rfl) (by kernel_rfl) hat41.blk (m := 4) (by kernel_rfl) (AtR.elem' hat41 _ _ (es_at hx43)) (AtR.len hat41 (es_at hx43)) <| Kg (act_spec F24 F28 l7 x16 X C x42 _ ho25 ho29 (fun q h1 h2 => dis32 q h2 h1) (by omega)) ?_
   rintro _ w46 ⟨rfl, ⟨F48, F51, ho49, ho52, hfr50, hfr53, hdis54⟩, hk47⟩
   refine ⟨_, rfl, ?_⟩
   have hsz55 := Keep.size hk47
   replace hk35 := Keep.fresh hk35 hk47 (fun i hi hs => by rcases hs with hs | hs; (rcases rel27 i hs with h | h; exact .inl h; (exfalso; omega)); (rcases rel31 i hs with h | h; exact .inr h; (exfalso; omega)))
   have own57 : ∀ q, F48 q → w.heap.size ≤ q := fun q hq => by rcases hfr50 q hq with h | h; (have h1 := own26 q h; have h2 := lt37 q h; omega); omega
   have lt56 := Led.lt ho49
   have rel58 : ∀ q, F48 q → F8 q ∨ w14.heap.size ≤ q := fun q hq => by rcases hfr50 q hq with h | h; exact rel27 q h; exact .inr (by omega)
   have own60 : ∀ q, F51 q → w5.heap.size ≤ q := fun q hq => by rcases hfr53 q hq with h | h; (have h1 := own30 q h; have h2 := lt38 q h; omega); omega
   have lt59 := DLd.lt ho52
   have rel61 : ∀ q, F51 q → F17 q ∨ w14.heap.size ≤ q := fun q hq => by rcases hfr53 q hq with h | h; exact rel31 q h; exact .inr (by omega)
   refine On 11 [1, 5, 7, 8, 9, 45, 46, 47, 48, 51, 52, 64, 65, 66] <| Kk (alike_spec F48 F51 l7 x16 (actX x42 X C) (actC x42 C) _ ho49 ho52) fun w62 hk63 _ => ?_
   replace hk35 := hk35.tn hk63
   replace ho49 := ho49.keep hk63 nk
   replace ho52 := DLd.keep ho52 hk63 nk
   refine Oen [1, 5, 7, 8, 9, 45, 46, 47, 48, 51, 52, 65, 66, 67, 68, 69] <| Vf <| V_skip <| X_block <| X_then <| V_region ?_
   have hw65 : IntKind.i64.wrap ((i : Int) + 1) = ((i + 1 : Nat) : Int) := (wrap64_id (by omega) (by omega)).trans (by omega)
   refine On 2 [1, 5, 7, 8, 45, 46, 47, 48, 51, 52, 55, 65, 66, 67, 68] <| Oq (u := nt (IntKind.i64.wrap ((i : Int) + 1))) (v := nt ((i + 1 : Nat) : Int)) 55 (by rw [hw65]) <| Os 3 [(1, sl_ b41 o41 xs.length capb), (5, pt l7), (7, pt x16), (8, nt 0), (9, nt ((i + 1 : Nat) : Int)), (45, nt (i : Int)), (46, sl_ b41 o41 xs.length capb), (47, nt (xs.length : Int)), (48, .bool (decide ((i : Int) < (xs.length : Int)))), (51, nt (i : Int)), (52, .bool (decide ((i : Int) < 100))), (65, pt l7), (66, pt x16), (67, .bool true), (68, .bool false)] <| OI_end rfl ?_
   exact V_again (k34 - 1) (by omega) [(1, sl_ b41 o41 xs.length capb), (5, pt l7), (7, pt x16), (8, nt 0), (9, nt ((i + 1 : Nat) : Int))] rfl ⟨i + 1, (actX x42 X C), (actC x42 C), F48, F51, by omega, by omega, Nat.le_trans (actC_len _ _) (by omega), ho49, (fun q hq => by have h1 := own57 q hq; have h2 := lt56 q hq; omega), rel58, ho52, (fun q hq => by have h1 := own60 q hq; have h2 := lt59 q hq; omega), rel61, (fun q h1 h2 => hdis54 q h2 h1), hk35, rfl⟩
  refine V_exit <| X_exit_then <| X_exit_then <| X_exit_here <| X_then <| V_seq <| Vn [5, 7, 8, 10] <| V_block <| Vp [(5, pt l7), (7, pt x16), (8, nt 0), (10, nt 0)] <| V_loop (fun k wI e => ∃ a : Nat, (k + a = 10) ∧ Keep none_ w33 wI ∧ e = [(5, pt l7), (7, pt x16), (8, nt 0), (10, nt (a : Int))]) 10 ⟨0, by omega, Keep.refl _ _, rfl⟩ ?_
  rintro k67 w66 _ ⟨a, hka, hk68, rfl⟩
  have hsz69 := Keep.size hk68
  replace hK0 := hK0.tn hk68
  replace ho25 := ho25.keep hk68 nk
  replace ho29 := DLd.keep ho29 hk68 nk
  have hzhk68 := Keep.size hk68
  refine V_seq <| Vn [5, 7, 8, 10, 73, 74, 75] <| Vi ((a : Int) < 10) (fun hc70 => ?_) (fun hc70 => ?_)
  ·
   refine Vsk <| V_seq <| V_block <| Vr <| On 2 [5, 7, 8, 10, 73, 74, 79, 80] <| Kg (lockl_spec F24 l7 X C (a : Int) _ ho25 (by omega)) ?_
   rintro _ w71 ⟨R73, capR73, rfl, hR73, hk72, ownR73⟩
   refine ⟨_, rfl, ?_⟩
   have hsz74 := Keep.size hk72
   replace ho29 := DLd.keep ho29 hk72 nk
   replace hk68 := hk68.tn hk72
   obtain ⟨D75, cp75, ds75, hdb75, hda75, hdl75, hrow75⟩ := DLd.rows ho29
   refine On 8 [5, 7, 8, 10, 11, 12, 73, 74] <| Oe <| V_seq <| Vr <| On 8 [5, 7, 8, 10, 11, 73, 74, 86, 87, 88, 89, 90, 91] <| Lr 0 (.slice D75 ds75.length cp75) hdb75 <| On 10 [5, 7, 8, 10, 11, 73, 74, 86, 87, 88, 89, 90, 91, 92, 93] ?_
   obtain ⟨b76, o76, L76, T76, rfl, hat76⟩ := SlT.open_ hda75 (by first | omega | (simp only [List.length_map]; omega) | (simp; done) | (simp; omega))
   have hb76lt := hat76.blk.lt
   refine Oi (b := b76) (o := o76) (len := ds75.length) (cap := cp75) (j := a) (some 94) 57 (.tmp 92) (.tmp 93) 56 3 40 .i64 <| On 12 [5, 7, 8, 10, 11, 73, 74, 86, 87, 88, 89, 90, 91, 92, 93, 94, 95] ?_
   obtain ⟨x77, hx78⟩ : ∃ x, ds75[a]? = some x := ⟨_, List.getElem?_eq_getElem (by first | omega | (simp only [List.length_map]; omega))⟩
   obtain ⟨f79, g79, A79, c79, l79⟩ := x77
   obtain ⟨hls79, hsl79⟩ := hrow75 a _ hx78
   replace hls79 : l79 = rowL (a : Int) C := hls79
   replace hsl79 : SlT w71 2 lkc A79 c79 l79 := hsl79
   subst hls79
   refine Lc (o76 + a * 3 + 2) (.slice A79 ((rowL (a : Int) C).length) c79) hat76.blk (At.cell hat76 (es_at hx78) rfl) <| Oen [5, 7, 8, 10, 11, 73, 74, 87, 88, 89, 90, 91, 92, 93, 94, 95, 96, 97, 98, 99] <| Vq (u := .bool (!(decide ((((rowL (a : Int) C).length : Nat) : Int) = (((rowL (a : Int) C).length : Nat) : Int))))) (v := .bool false) 99 (by rw [decide_eq_true (rfl : (((rowL (a : Int) C).length : Nat) : Int) = (((rowL (a : Int) C).length : Nat) : Int))]; rfl) <| Vf <| Vsk <| Vn [5, 7, 8, 10, 11, 13, 73, 74, 87, 88, 89, 90, 91, 92, 93, 94, 95, 96, 97, 98] <| V_block <| Vp [(5, pt l7), (7, pt x16), (8, nt 0), (10, nt (a : Int)), (11, .slice R73 ((rowL (a : Int) C).length) capR73), (13, nt 0), (73, nt (a : Int)), (74, .bool (decide ((a : Int) < 10))), (87, .slice R73 ((rowL (a : Int) C).length) capR73), (88, nt (((rowL (a : Int) C).length : Nat) : Int)), (89, pt x16), (90, pt x16), (91, pt x16), (92, sl_ b76 o76 ds75.length cp75), (93, nt (a : Int)), (94, .pointer (some ⟨b76, o76 + a * 3, none⟩)), (95, .pointer (some ⟨b76, o76 + a * 3 + 2, none⟩)), (96, .slice A79 ((rowL (a : Int) C).length) c79), (97, nt (((rowL (a : Int) C).length : Nat) : Int)), (98, .bool (!(decide ((((rowL (a : Int) C).length : Nat) : Int) = (((rowL (a : Int) C).length : Nat) : Int)))))] <| V_loop (fun k wI e => ∃ j : Nat, (k + j = (rowL (a : Int) C).length) ∧ Keep none_ w71 wI ∧ e = [(5, pt l7), (7, pt x16), (8, nt 0), (10, nt (a : Int)), (11, .slice R73 ((rowL (a : Int) C).length) capR73), (13, nt (j : Int)), (73, nt (a : Int)), (74, .bool (decide ((a : Int) < 10))), (87, .slice R73 ((rowL (a : Int) C).length) capR73), (88, nt (((rowL (a : Int) C).length : Nat) : Int)), (89, pt x16), (90, pt x16), (91, pt x16), (92, sl_ b76 o76 ds75.length cp75), (93, nt (a : Int)), (94, .pointer (some ⟨b76, o76 + a * 3, none⟩)), (95, .pointer (some ⟨b76, o76 + a * 3 + 2, none⟩)), (96, .slice A79 ((rowL (a : Int) C).length) c79), (97, nt (((rowL (a : Int) C).length : Nat) : Int)), (98, .bool (!(decide ((((rowL (a : Int) C).length : Nat) : Int) = (((rowL (a : Int) C).length : Nat) : Int)))))]) ((rowL (a : Int) C).length) ⟨0, by omega, Keep.refl _ _, rfl⟩ ?_
   rintro k82 w81 _ ⟨j, hkj, hk83, rfl⟩
   have hsz84 := Keep.size hk83
   replace hdb75 := hdb75.k0 hk83
   replace hat76 := hat76.keep hk83 id
   replace hR73 := hR73.keep0 hk83
   replace hsl79 := hsl79.keep0 hk83
   replace hk68 := hk68.tn hk83
   have hzhk83 := Keep.size hk83
   have hrl : (rowL (a : Int) C).length ≤ C.length := by unfold rowL; rw [List.length_map]; exact List.length_filter_le ..
   refine V_seq <| Vn [5, 7, 8, 10, 11, 13, 73, 74, 87, 88, 89, 90, 91, 92, 93, 94, 95, 96, 97, 98, 103] <| Vi ((j : Int) < (((rowL (a : Int) C).length : Nat) : Int)) (fun hc85 => ?_) (fun hc85 => ?_)
   ·
    refine Vsk <| V_seq <| V_block <| V_seq <| Vd1 (acts []) none_ [0, 1, 2, 3, 4, 5, 6, 7, 8, 9, 10, 11, 12, 13, 14, 15] fun w87 hk86 he88 K91 _ => ?_
    replace hdb75 := hdb75.k0 hk86
    replace hat76 := hat76.keep hk86 id
    replace hR73 := hR73.keep0 hk86
    replace hsl79 := hsl79.keep0 hk86
    replace hk83 := hk83.tn hk86
    have qhdb75 := hdb75
    have qhat76 := hat76
    have qhR73 := hR73
    have qhsl79 := hsl79
    refine Gn [2, 3, 4, 5, 6, 7, 8, 9, 10, 11, 12, 13, 14, 15] [5, 7, 8, 10, 11, 13, 73, 74, 87, 88, 89, 90, 91, 92, 93, 94, 95, 96, 97, 98, 106, 107] ?_
    obtain ⟨b92, o92, L92, T92, rfl, hat92⟩ := SlT.open_ hR73 (by first | omega | (simp only [List.length_map]; omega) | (simp; done) | (simp; omega))
    have hb92lt := hat92.blk.lt
    obtain ⟨qL92, qT92, qhat92⟩ := SlT.openA qhR73 (by first | omega | (simp; done) | (simp; omega))
    refine GI_pure (some 108) (.indexAddr 52 (.tmp 106) (.tmp 107)) (by kernel_rfl) (by kernel_rfl) (pure_idxN (b := b92) (o := o92) (len := (rowL (a : Int) C).length) (cap := capR73) (kd := .i64) (j := j) (E := 61) (sz := 2) (by_ := 16) (by kernel_rfl) (by kernel_rfl) (by kernel_rfl) (by omega)) ?_
    obtain ⟨x93, hx94⟩ : ∃ x, (rowL (a : Int) C)[j]? = some x := ⟨_, List.getElem?_eq_getElem (by first | omega | (simp only [List.length_map]; omega))⟩
    refine Ma (o92 + j * 2) (lkc x93) 2 qhat92.blk id (At.elem' qhat92 (es_at hx94)) (At.len qhat92 (es_at hx94)) <| Gn [7, 8, 9, 10, 11, 12, 13, 14, 15] [5, 7, 8, 10, 11, 13, 73, 74, 87, 88, 89, 90, 91, 92, 93, 94, 95, 96, 97, 98, 109, 112] <| Mr 0 (sl_ b76 o76 ds75.length cp75) qhdb75 <| Gn [9, 10, 11, 12, 13, 14, 15] [5, 7, 8, 10, 11, 13, 73, 74, 87, 88, 89, 90, 91, 92, 93, 94, 95, 96, 97, 98, 109, 113, 114] <| GI_pure (some 115) (.indexAddr 57 (.tmp 113) (.tmp 114)) (by kernel_rfl) (by kernel_rfl) (pure_idxN (b := b76) (o := o76) (len := ds75.length) (cap := cp75) (kd := .i64) (j := a) (E := 56) (sz := 3) (by_ := 40) (by kernel_rfl) (by kernel_rfl) (by kernel_rfl) (by omega)) <| Gn [11, 12, 13, 14, 15] [5, 7, 8, 10, 11, 13, 73, 74, 87, 88, 89, 90, 91, 92, 93, 94, 95, 96, 97, 98, 109, 116] <| Mc0 (o76 + a * 3 + 2) (.slice A79 ((rowL (a : Int) C).length) c79) qhat76.blk (At.cell qhat76 (es_at hx78) rfl) <| Gn [13, 14, 15] [5, 7, 8, 10, 11, 13, 73, 74, 87, 88, 89, 90, 91, 92, 93, 94, 95, 96, 97, 98, 109, 117, 118] ?_
    obtain ⟨b95, o95, L95, T95, rfl, hat95⟩ := SlT.open_ hsl79 (by first | omega | (simp only [List.length_map]; omega) | (simp; done) | (simp; omega))
    have hb95lt := hat95.blk.lt
    obtain ⟨qL95, qT95, qhat95⟩ := SlT.openA qhsl79 (by first | omega | (simp; done) | (simp; omega))
    refine GI_pure (some 119) (.indexAddr 52 (.tmp 117) (.tmp 118)) (by kernel_rfl) (by kernel_rfl) (pure_idxN (b := b95) (o := o95) (len := (rowL (a : Int) C).length) (cap := c79) (kd := .i64) (j := j) (E := 61) (sz := 2) (by_ := 16) (by kernel_rfl) (by kernel_rfl) (by kernel_rfl) (by omega)) <| Ma (o95 + j * 2) (lkc x93) 2 qhat95.blk id (At.elem' qhat95 (es_at hx94)) (At.len qhat95 (es_at hx94)) <| GI_pure (some 121) ((Op.binOp BinOp.neq 61 (Operand.tmp 109) (Operand.tmp 120) 61)) (by kernel_rfl) (by kernel_rfl) (pure_neq_same (xs := lkc x93) (by kernel_rfl) (by kernel_rfl) (by kernel_rfl) (by kernel_rfl)) <| GI_end <| X_then <| Vf <| V_skip <| X_block <| X_then <| V_region ?_
    have hw96 : IntKind.i64.wrap ((j : Int) + 1) = ((j + 1 : Nat) : Int) := (wrap64_id (by omega) (by omega)).trans (by omega)
    refine On 2 [5, 7, 8, 10, 11, 73, 74, 87, 88, 89, 90, 91, 92, 93, 94, 95, 96, 97, 98, 105] <| Oq (u := nt (IntKind.i64.wrap ((j : Int) + 1))) (v := nt ((j + 1 : Nat) : Int)) 105 (by rw [hw96]) <| Os 3 [(5, pt l7), (7, pt x16), (8, nt 0), (10, nt (a : Int)), (11, sl_ b92 o92 ((rowL (a : Int) C).length) capR73), (13, nt ((j + 1 : Nat) : Int)), (73, nt (a : Int)), (74, .bool (decide ((a : Int) < 10))), (87, sl_ b92 o92 ((rowL (a : Int) C).length) capR73), (88, nt (((rowL (a : Int) C).length : Nat) : Int)), (89, pt x16), (90, pt x16), (91, pt x16), (92, sl_ b76 o76 ds75.length cp75), (93, nt (a : Int)), (94, .pointer (some ⟨b76, o76 + a * 3, none⟩)), (95, .pointer (some ⟨b76, o76 + a * 3 + 2, none⟩)), (96, sl_ b95 o95 ((rowL (a : Int) C).length) c79), (97, nt (((rowL (a : Int) C).length : Nat) : Int)), (98, .bool (!(decide ((((rowL (a : Int) C).length : Nat) : Int) = (((rowL (a : Int) C).length : Nat) : Int)))))] <| OI_end rfl ?_
    exact V_again (k82 - 1) (by omega) [(5, pt l7), (7, pt x16), (8, nt 0), (10, nt (a : Int)), (11, sl_ b92 o92 ((rowL (a : Int) C).length) capR73), (13, nt ((j + 1 : Nat) : Int)), (73, nt (a : Int)), (74, .bool (decide ((a : Int) < 10))), (87, sl_ b92 o92 ((rowL (a : Int) C).length) capR73), (88, nt (((rowL (a : Int) C).length : Nat) : Int)), (89, pt x16), (90, pt x16), (91, pt x16), (92, sl_ b76 o76 ds75.length cp75), (93, nt (a : Int)), (94, .pointer (some ⟨b76, o76 + a * 3, none⟩)), (95, .pointer (some ⟨b76, o76 + a * 3 + 2, none⟩)), (96, sl_ b95 o95 ((rowL (a : Int) C).length) c79), (97, nt (((rowL (a : Int) C).length : Nat) : Int)), (98, .bool (!(decide ((((rowL (a : Int) C).length : Nat) : Int) = (((rowL (a : Int) C).length : Nat) : Int)))))] rfl ⟨j + 1, by omega, hk83, rfl⟩
   refine V_exit <| X_exit_then <| X_exit_then <| X_exit_here <| X_block <| X_then <| V_region ?_
   have hw97 : IntKind.i64.wrap ((a : Int) + 1) = ((a + 1 : Nat) : Int) := (wrap64_id (by omega) (by omega)).trans (by omega)
   refine On 2 [5, 7, 8, 73, 74, 77, 87, 88, 89, 90, 91, 92, 93, 94, 95, 96, 97, 98] <| Oq (u := nt (IntKind.i64.wrap ((a : Int) + 1))) (v := nt ((a + 1 : Nat) : Int)) 77 (by rw [hw97]) <| Os 3 [(5, pt l7), (7, pt x16), (8, nt 0), (10, nt ((a + 1 : Nat) : Int)), (73, nt (a : Int)), (74, .bool (decide ((a : Int) < 10))), (87, .slice R73 ((rowL (a : Int) C).length) capR73), (88, nt (((rowL (a : Int) C).length : Nat) : Int)), (89, pt x16), (90, pt x16), (91, pt x16), (92, sl_ b76 o76 ds75.length cp75), (93, nt (a : Int)), (94, .pointer (some ⟨b76, o76 + a * 3, none⟩)), (95, .pointer (some ⟨b76, o76 + a * 3 + 2, none⟩)), (96, .slice A79 ((rowL (a : Int) C).length) c79), (97, nt (((rowL (a : Int) C).length : Nat) : Int)), (98, .bool (!(decide ((((rowL (a : Int) C).length : Nat) : Int) = (((rowL (a : Int) C).length : Nat) : Int)))))] <| OI_end rfl ?_
   exact V_again (k67 - 1) (by omega) [(5, pt l7), (7, pt x16), (8, nt 0), (10, nt ((a + 1 : Nat) : Int))] rfl ⟨a + 1, by omega, hk68, rfl⟩
  refine V_exit <| X_exit_then <| X_exit_then <| X_exit_here <| X_then <| Vr <| Kk (known_spec _) fun w98 hk99 _ => ?_
  replace hK0 := hK0.tn hk99
  exact Oen [4] <| Rr (.bool true) ⟨rfl, hK0⟩
 refine Df 50 hg39 <| Oen [1, 5, 7, 8, 9, 45, 46, 47, 48, 51, 52, 53] <| Vf <| V_exit <| X_exit_then <| X_exit_then <| X_exit_here <| X_then <| V_seq <| Vn [5, 7, 8, 10] <| V_block <| Vp [(5, pt l7), (7, pt x16), (8, nt 0), (10, nt 0)] <| V_loop (fun k wI e => ∃ a : Nat, (k + a = 10) ∧ Keep none_ w33 wI ∧ e = [(5, pt l7), (7, pt x16), (8, nt 0), (10, nt (a : Int))]) 10 ⟨0, by omega, Keep.refl _ _, rfl⟩ ?_
 rintro k102 w101 _ ⟨a, hka, hk103, rfl⟩
 have hsz104 := Keep.size hk103
 replace hK0 := hK0.tn hk103
 replace ho25 := ho25.keep hk103 nk
 replace ho29 := DLd.keep ho29 hk103 nk
 have hzhk103 := Keep.size hk103
 refine V_seq <| Vn [5, 7, 8, 10, 73, 74, 75] <| Vi ((a : Int) < 10) (fun hc105 => ?_) (fun hc105 => ?_)
 ·
  refine Vsk <| V_seq <| V_block <| Vr <| On 2 [5, 7, 8, 10, 73, 74, 79, 80] <| Kg (lockl_spec F24 l7 X C (a : Int) _ ho25 (by omega)) ?_
  rintro _ w106 ⟨R108, capR108, rfl, hR108, hk107, ownR108⟩
  refine ⟨_, rfl, ?_⟩
  have hsz109 := Keep.size hk107
  replace ho29 := DLd.keep ho29 hk107 nk
  replace hk103 := hk103.tn hk107
  obtain ⟨D110, cp110, ds110, hdb110, hda110, hdl110, hrow110⟩ := DLd.rows ho29
  refine On 8 [5, 7, 8, 10, 11, 12, 73, 74] <| Oe <| V_seq <| Vr <| On 8 [5, 7, 8, 10, 11, 73, 74, 86, 87, 88, 89, 90, 91] <| Lr 0 (.slice D110 ds110.length cp110) hdb110 <| On 10 [5, 7, 8, 10, 11, 73, 74, 86, 87, 88, 89, 90, 91, 92, 93] ?_
  obtain ⟨b111, o111, L111, T111, rfl, hat111⟩ := SlT.open_ hda110 (by first | omega | (simp only [List.length_map]; omega) | (simp; done) | (simp; omega))
  have hb111lt := hat111.blk.lt
  refine Oi (b := b111) (o := o111) (len := ds110.length) (cap := cp110) (j := a) (some 94) 57 (.tmp 92) (.tmp 93) 56 3 40 .i64 <| On 12 [5, 7, 8, 10, 11, 73, 74, 86, 87, 88, 89, 90, 91, 92, 93, 94, 95] ?_
  obtain ⟨x112, hx113⟩ : ∃ x, ds110[a]? = some x := ⟨_, List.getElem?_eq_getElem (by first | omega | (simp only [List.length_map]; omega))⟩
  obtain ⟨f114, g114, A114, c114, l114⟩ := x112
  obtain ⟨hls114, hsl114⟩ := hrow110 a _ hx113
  replace hls114 : l114 = rowL (a : Int) C := hls114
  replace hsl114 : SlT w106 2 lkc A114 c114 l114 := hsl114
  subst hls114
  refine Lc (o111 + a * 3 + 2) (.slice A114 ((rowL (a : Int) C).length) c114) hat111.blk (At.cell hat111 (es_at hx113) rfl) <| Oen [5, 7, 8, 10, 11, 73, 74, 87, 88, 89, 90, 91, 92, 93, 94, 95, 96, 97, 98, 99] <| Vq (u := .bool (!(decide ((((rowL (a : Int) C).length : Nat) : Int) = (((rowL (a : Int) C).length : Nat) : Int))))) (v := .bool false) 99 (by rw [decide_eq_true (rfl : (((rowL (a : Int) C).length : Nat) : Int) = (((rowL (a : Int) C).length : Nat) : Int))]; rfl) <| Vf <| Vsk <| Vn [5, 7, 8, 10, 11, 13, 73, 74, 87, 88, 89, 90, 91, 92, 93, 94, 95, 96, 97, 98] <| V_block <| Vp [(5, pt l7), (7, pt x16), (8, nt 0), (10, nt (a : Int)), (11, .slice R108 ((rowL (a : Int) C).length) capR108), (13, nt 0), (73, nt (a : Int)), (74, .bool (decide ((a : Int) < 10))), (87, .slice R108 ((rowL (a : Int) C).length) capR108), (88, nt (((rowL (a : Int) C).length : Nat) : Int)), (89, pt x16), (90, pt x16), (91, pt x16), (92, sl_ b111 o111 ds110.length cp110), (93, nt (a : Int)), (94, .pointer (some ⟨b111, o111 + a * 3, none⟩)), (95, .pointer (some ⟨b111, o111 + a * 3 + 2, none⟩)), (96, .slice A114 ((rowL (a : Int) C).length) c114), (97, nt (((rowL (a : Int) C).length : Nat) : Int)), (98, .bool (!(decide ((((rowL (a : Int) C).length : Nat) : Int) = (((rowL (a : Int) C).length : Nat) : Int)))))] <| V_loop (fun k wI e => ∃ j : Nat, (k + j = (rowL (a : Int) C).length) ∧ Keep none_ w106 wI ∧ e = [(5, pt l7), (7, pt x16), (8, nt 0), (10, nt (a : Int)), (11, .slice R108 ((rowL (a : Int) C).length) capR108), (13, nt (j : Int)), (73, nt (a : Int)), (74, .bool (decide ((a : Int) < 10))), (87, .slice R108 ((rowL (a : Int) C).length) capR108), (88, nt (((rowL (a : Int) C).length : Nat) : Int)), (89, pt x16), (90, pt x16), (91, pt x16), (92, sl_ b111 o111 ds110.length cp110), (93, nt (a : Int)), (94, .pointer (some ⟨b111, o111 + a * 3, none⟩)), (95, .pointer (some ⟨b111, o111 + a * 3 + 2, none⟩)), (96, .slice A114 ((rowL (a : Int) C).length) c114), (97, nt (((rowL (a : Int) C).length : Nat) : Int)), (98, .bool (!(decide ((((rowL (a : Int) C).length : Nat) : Int) = (((rowL (a : Int) C).length : Nat) : Int)))))]) ((rowL (a : Int) C).length) ⟨0, by omega, Keep.refl _ _, rfl⟩ ?_
  rintro k117 w116 _ ⟨j, hkj, hk118, rfl⟩
  have hsz119 := Keep.size hk118
  replace hdb110 := hdb110.k0 hk118
  replace hat111 := hat111.keep hk118 id
  replace hR108 := hR108.keep0 hk118
  replace hsl114 := hsl114.keep0 hk118
  replace hk103 := hk103.tn hk118
  have hzhk118 := Keep.size hk118
  have hrl : (rowL (a : Int) C).length ≤ C.length := by unfold rowL; rw [List.length_map]; exact List.length_filter_le ..
  refine V_seq <| Vn [5, 7, 8, 10, 11, 13, 73, 74, 87, 88, 89, 90, 91, 92, 93, 94, 95, 96, 97, 98, 103] <| Vi ((j : Int) < (((rowL (a : Int) C).length : Nat) : Int)) (fun hc120 => ?_) (fun hc120 => ?_)
  ·
   refine Vsk <| V_seq <| V_block <| V_seq <| Vd1 (acts []) none_ [0, 1, 2, 3, 4, 5, 6, 7, 8, 9, 10, 11, 12, 13, 14, 15] fun w122 hk121 he123 K126 _ => ?_
   replace hdb110 := hdb110.k0 hk121
   replace hat111 := hat111.keep hk121 id
   replace hR108 := hR108.keep0 hk121
   replace hsl114 := hsl114.keep0 hk121
   replace hk118 := hk118.tn hk121
   have qhdb110 := hdb110
   have qhat111 := hat111
   have qhR108 := hR108
   have qhsl114 := hsl114
   refine Gn [2, 3, 4, 5, 6, 7, 8, 9, 10, 11, 12, 13, 14, 15] [5, 7, 8, 10, 11, 13, 73, 74, 87, 88, 89, 90, 91, 92, 93, 94, 95, 96, 97, 98, 106, 107] ?_
   obtain ⟨b127, o127, L127, T127, rfl, hat127⟩ := SlT.open_ hR108 (by first | omega | (simp only [List.length_map]; omega) | (simp; done) | (simp; omega))
   have hb127lt := hat127.blk.lt
   obtain ⟨qL127, qT127, qhat127⟩ := SlT.openA qhR108 (by first | omega | (simp; done) | (simp; omega))
   refine GI_pure (some 108) (.indexAddr 52 (.tmp 106) (.tmp 107)) (by kernel_rfl) (by kernel_rfl) (pure_idxN (b := b127) (o := o127) (len := (rowL (a : Int) C).length) (cap := capR108) (kd := .i64) (j := j) (E := 61) (sz := 2) (by_ := 16) (by kernel_rfl) (by kernel_rfl) (by kernel_rfl) (by omega)) ?_
   obtain ⟨x128, hx129⟩ : ∃ x, (rowL (a : Int) C)[j]? = some x := ⟨_, List.getElem?_eq_getElem (by first | omega | (simp only [List.length_map]; omega))⟩
   refine Ma (o127 + j * 2) (lkc x128) 2 qhat127.blk id (At.elem' qhat127 (es_at hx129)) (At.len qhat127 (es_at hx129)) <| Gn [7, 8, 9, 10, 11, 12, 13, 14, 15] [5, 7, 8, 10, 11, 13, 73, 74, 87, 88, 89, 90, 91, 92, 93, 94, 95, 96, 97, 98, 109, 112] <| Mr 0 (sl_ b111 o111 ds110.length cp110) qhdb110 <| Gn [9, 10, 11, 12, 13, 14, 15] [5, 7, 8, 10, 11, 13, 73, 74, 87, 88, 89, 90, 91, 92, 93, 94, 95, 96, 97, 98, 109, 113, 114] <| GI_pure (some 115) (.indexAddr 57 (.tmp 113) (.tmp 114)) (by kernel_rfl) (by kernel_rfl) (pure_idxN (b := b111) (o := o111) (len := ds110.length) (cap := cp110) (kd := .i64) (j := a) (E := 56) (sz := 3) (by_ := 40) (by kernel_rfl) (by kernel_rfl) (by kernel_rfl) (by omega)) <| Gn [11, 12, 13, 14, 15] [5, 7, 8, 10, 11, 13, 73, 74, 87, 88, 89, 90, 91, 92, 93, 94, 95, 96, 97, 98, 109, 116] <| Mc0 (o111 + a * 3 + 2) (.slice A114 ((rowL (a : Int) C).length) c114) qhat111.blk (At.cell qhat111 (es_at hx113) rfl) <| Gn [13, 14, 15] [5, 7, 8, 10, 11, 13, 73, 74, 87, 88, 89, 90, 91, 92, 93, 94, 95, 96, 97, 98, 109, 117, 118] ?_
   obtain ⟨b130, o130, L130, T130, rfl, hat130⟩ := SlT.open_ hsl114 (by first | omega | (simp only [List.length_map]; omega) | (simp; done) | (simp; omega))
   have hb130lt := hat130.blk.lt
   obtain ⟨qL130, qT130, qhat130⟩ := SlT.openA qhsl114 (by first | omega | (simp; done) | (simp; omega))
   refine GI_pure (some 119) (.indexAddr 52 (.tmp 117) (.tmp 118)) (by kernel_rfl) (by kernel_rfl) (pure_idxN (b := b130) (o := o130) (len := (rowL (a : Int) C).length) (cap := c114) (kd := .i64) (j := j) (E := 61) (sz := 2) (by_ := 16) (by kernel_rfl) (by kernel_rfl) (by kernel_rfl) (by omega)) <| Ma (o130 + j * 2) (lkc x128) 2 qhat130.blk id (At.elem' qhat130 (es_at hx129)) (At.len qhat130 (es_at hx129)) <| GI_pure (some 121) ((Op.binOp BinOp.neq 61 (Operand.tmp 109) (Operand.tmp 120) 61)) (by kernel_rfl) (by kernel_rfl) (pure_neq_same (xs := lkc x128) (by kernel_rfl) (by kernel_rfl) (by kernel_rfl) (by kernel_rfl)) <| GI_end <| X_then <| Vf <| V_skip <| X_block <| X_then <| V_region ?_
   have hw131 : IntKind.i64.wrap ((j : Int) + 1) = ((j + 1 : Nat) : Int) := (wrap64_id (by omega) (by omega)).trans (by omega)
   refine On 2 [5, 7, 8, 10, 11, 73, 74, 87, 88, 89, 90, 91, 92, 93, 94, 95, 96, 97, 98, 105] <| Oq (u := nt (IntKind.i64.wrap ((j : Int) + 1))) (v := nt ((j + 1 : Nat) : Int)) 105 (by rw [hw131]) <| Os 3 [(5, pt l7), (7, pt x16), (8, nt 0), (10, nt (a : Int)), (11, sl_ b127 o127 ((rowL (a : Int) C).length) capR108), (13, nt ((j + 1 : Nat) : Int)), (73, nt (a : Int)), (74, .bool (decide ((a : Int) < 10))), (87, sl_ b127 o127 ((rowL (a : Int) C).length) capR108), (88, nt (((rowL (a : Int) C).length : Nat) : Int)), (89, pt x16), (90, pt x16), (91, pt x16), (92, sl_ b111 o111 ds110.length cp110), (93, nt (a : Int)), (94, .pointer (some ⟨b111, o111 + a * 3, none⟩)), (95, .pointer (some ⟨b111, o111 + a * 3 + 2, none⟩)), (96, sl_ b130 o130 ((rowL (a : Int) C).length) c114), (97, nt (((rowL (a : Int) C).length : Nat) : Int)), (98, .bool (!(decide ((((rowL (a : Int) C).length : Nat) : Int) = (((rowL (a : Int) C).length : Nat) : Int)))))] <| OI_end rfl ?_
   exact V_again (k117 - 1) (by omega) [(5, pt l7), (7, pt x16), (8, nt 0), (10, nt (a : Int)), (11, sl_ b127 o127 ((rowL (a : Int) C).length) capR108), (13, nt ((j + 1 : Nat) : Int)), (73, nt (a : Int)), (74, .bool (decide ((a : Int) < 10))), (87, sl_ b127 o127 ((rowL (a : Int) C).length) capR108), (88, nt (((rowL (a : Int) C).length : Nat) : Int)), (89, pt x16), (90, pt x16), (91, pt x16), (92, sl_ b111 o111 ds110.length cp110), (93, nt (a : Int)), (94, .pointer (some ⟨b111, o111 + a * 3, none⟩)), (95, .pointer (some ⟨b111, o111 + a * 3 + 2, none⟩)), (96, sl_ b130 o130 ((rowL (a : Int) C).length) c114), (97, nt (((rowL (a : Int) C).length : Nat) : Int)), (98, .bool (!(decide ((((rowL (a : Int) C).length : Nat) : Int) = (((rowL (a : Int) C).length : Nat) : Int)))))] rfl ⟨j + 1, by omega, hk118, rfl⟩
  refine V_exit <| X_exit_then <| X_exit_then <| X_exit_here <| X_block <| X_then <| V_region ?_
  have hw132 : IntKind.i64.wrap ((a : Int) + 1) = ((a + 1 : Nat) : Int) := (wrap64_id (by omega) (by omega)).trans (by omega)
  refine On 2 [5, 7, 8, 73, 74, 77, 87, 88, 89, 90, 91, 92, 93, 94, 95, 96, 97, 98] <| Oq (u := nt (IntKind.i64.wrap ((a : Int) + 1))) (v := nt ((a + 1 : Nat) : Int)) 77 (by rw [hw132]) <| Os 3 [(5, pt l7), (7, pt x16), (8, nt 0), (10, nt ((a + 1 : Nat) : Int)), (73, nt (a : Int)), (74, .bool (decide ((a : Int) < 10))), (87, .slice R108 ((rowL (a : Int) C).length) capR108), (88, nt (((rowL (a : Int) C).length : Nat) : Int)), (89, pt x16), (90, pt x16), (91, pt x16), (92, sl_ b111 o111 ds110.length cp110), (93, nt (a : Int)), (94, .pointer (some ⟨b111, o111 + a * 3, none⟩)), (95, .pointer (some ⟨b111, o111 + a * 3 + 2, none⟩)), (96, .slice A114 ((rowL (a : Int) C).length) c114), (97, nt (((rowL (a : Int) C).length : Nat) : Int)), (98, .bool (!(decide ((((rowL (a : Int) C).length : Nat) : Int) = (((rowL (a : Int) C).length : Nat) : Int)))))] <| OI_end rfl ?_
  exact V_again (k102 - 1) (by omega) [(5, pt l7), (7, pt x16), (8, nt 0), (10, nt ((a + 1 : Nat) : Int))] rfl ⟨a + 1, by omega, hk103, rfl⟩
 refine V_exit <| X_exit_then <| X_exit_then <| X_exit_here <| X_then <| Vr <| Kk (known_spec _) fun w133 hk134 _ => ?_
 replace hK0 := hK0.tn hk134
 exact Oen [4] <| Rr (.bool true) ⟨rfl, hK0⟩
set_option maxHeartbeats 4000000 in
theorem walk_LedgerPlays_no (A B : Option Addr) (cap capb : Nat) (fs : List Int) (xs : List Ac4) (w : World) (hA0 : ArgT w 1 intc A cap fs) (hB0 : ArgT w 4 Ac4.cells B capb xs) (hcap : fs.length ≤ 9223372036854775807) (hcapb : xs.length ≤ 9223372036854775807) (hok : ¬ okP fs) : Calls Try.prog 11 #[.slice A fs.length cap, .slice B xs.length capb] w (rk_ w (.bool true)) := by
 have hA := hA0
 have hB := hB0
 have hK0 : Keep none_ w w := Keep.refl _ _
 have hzhK0 := Keep.size hK0
 refine eV ?_
 refine Vr <| On 1 [0, 1] <| Oe <| V_seq <| Vr <| On 4 [0, 1, 17] ?_
 by_cases hg1 : (fs.length : Int) > 40
 ·
  exact Dt 17 hg1 <| Oen [0, 1, 21] <| Vo <| Vn [4] <| Rt <| Xr (.bool true) ⟨rfl, hK0⟩
 refine Df 17 hg1 <| Oen [0, 1, 21] <| Vi ((xs.length : Int) > 10000) (fun hc2 => ?_) (fun hc2 => ?_)
 ·
  exact Vn [4] <| Rt <| Xr (.bool true) ⟨rfl, hK0⟩
 refine Vsk <| Vr <| On 1 [0, 1, 23] <| Kk (new_no A cap fs _ hA (by omega) hok) fun w5 hk6 _ => ?_
 replace hA := ArgT.keep0 hA hk6
 replace hK0 := hK0.tn hk6
 refine On 7 [0, 1, 5, 6] <| Oer <| On 1 [1, 5, 6, 28] <| Kk (new6_no A cap fs _ hA (by omega) hok) fun w12 hk13 _ => ?_
 replace hK0 := hK0.tn hk13
 refine On 7 [1, 5, 6, 7, 8] <| Oe <| V_seq <| Vn [1, 5, 7, 8, 41] <| Vf <| Vsk <| V_seq <| Vn [1, 5, 7, 8, 9] <| V_block <| Vp [(1, .slice B xs.length capb), (5, .pointer none), (7, .pointer none), (8, nt 1), (9, nt 0)] <| V_loop (fun k wI e => (k = 0) ∧ Keep none_ w12 wI ∧ e = [(1, .slice B xs.length capb), (5, .pointer none), (7, .pointer none), (8, nt 1), (9, nt 0)]) 0 ⟨rfl, Keep.refl _ _, rfl⟩ ?_
 rintro k16 w15 _ ⟨hk0, hk17, rfl⟩
 have hsz18 := Keep.size hk17
 replace hK0 := hK0.tn hk17
 have hzhk17 := Keep.size hk17
 refine V_seq <| Vn [1, 5, 7, 8, 9, 45, 46, 47, 48, 51, 52, 53] <| Vf <| V_exit <| X_exit_then <| X_exit_then <| X_exit_here <| X_then <| V_seq <| Vn [5, 7, 8, 10] <| V_block <| Vp [(5, .pointer none), (7, .pointer none), (8, nt 1), (10, nt 0)] <| V_loop (fun k wI e => (k = 0) ∧ Keep none_ w15 wI ∧ e = [(5, .pointer none), (7, .pointer none), (8, nt 1), (10, nt 0)]) 0 ⟨rfl, Keep.refl _ _, rfl⟩ ?_
 rintro k20 w19 _ ⟨hk1, hk21, rfl⟩
 have hsz22 := Keep.size hk21
 replace hK0 := hK0.tn hk21
 have hzhk21 := Keep.size hk21
 refine V_seq <| Vn [5, 7, 8, 10, 73, 74, 75] <| Vf <| V_exit <| X_exit_then <| X_exit_then <| X_exit_here <| X_then <| Vr <| Kk (known_spec _) fun w23 hk24 _ => ?_
 replace hK0 := hK0.tn hk24
 exact Oen [4] <| Rr (.bool true) ⟨rfl, hK0⟩
theorem over_LedgerPlays {H : Type} {enc : TypeId × Value → H} {A B : Option Addr} {len cap lenb capb : Nat} {d db : DataW H} {ps pb : List MemPlace} {w : World} (h : DataW.Trod enc Try.prog w 0 (fun _ => true) true 26 (.slice A len cap) d ps) (hb : DataW.Trod enc Try.prog w 0 (fun _ => true) true 38 (.slice B lenb capb) db pb) : Calls Try.prog 11 #[.slice A len cap, .slice B lenb capb] w (rk_ w (.bool true)) := by
  obtain ⟨fs, rfl, hA, hl, hc⟩ := read_elems (f := intc) (ks := [.int .i64]) (n := 1) (sz := 1) lift_int Try.underlying26 (by kernel_rfl) (by kernel_rfl) rfl (by decide) h
  obtain ⟨xs, rfl, hB, hlb, hcb⟩ := read_elems (f := Ac4.cells) (ks := [.int .i64, .int .i64, .int .i64, .int .i64]) (n := 4) (sz := 4) lift_Ac4 Try.underlying38 (by kernel_rfl) (by kernel_rfl) rfl (by decide) hb
  by_cases hok : okP fs
  · exact walk_LedgerPlays_yes A B cap capb fs xs w hA hB (by unfold maxLen at hc; omega) (by unfold maxLen at hcb; omega) hok
  · exact walk_LedgerPlays_no A B cap capb fs xs w hA hB (by unfold maxLen at hc; omega) (by unfold maxLen at hcb; omega) hok
end Go.Al
