/-
  Inserting into a slice, and deleting from one, cell by cell; slices of slices; whether two slices overlap.
-/
import Derived.Test.YtijhhcnahepdlaaSl
import Derived.Lib.Overlaps
namespace Go.Al
open Go Go.RowKit

theorem over_app {X Y Z W : List Value} (h : Y.length = W.length) : over (X ++ (Y ++ Z)) X.length W = X ++ (W ++ Z) := by
  unfold over
  rw [List.take_left, List.append_assoc]
  congr 2
  rw [← h, show X.length + Y.length = (X ++ Y).length by simp, ← List.append_assoc, List.drop_left]
theorem over_app' {X Y Z W L : List Value} {o : Nat} (hL : L = X ++ (Y ++ Z)) (ho : o = X.length) (h : Y.length = W.length) : over L o W = X ++ (W ++ Z) := by subst hL; subst ho; exact over_app h
theorem drop_app' {X Z L : List Value} {o : Nat} (hL : L = X ++ Z) (ho : o = X.length) : L.drop o = Z := by subst hL; subst ho; simp
theorem take_app' {X Z L : List Value} {o : Nat} (hL : L = X ++ Z) (ho : o = X.length) : L.take o = X := by subst hL; subst ho; simp

theorem At.split {w : World} {b o sz cap : Nat} {L : List Value} {T : TypeId} {es : List (List Value)} (h : At w b o L T sz cap es) (i : Nat) (hi : i ≤ es.length) :
    ∃ pre C, pre.length = o ∧ L = pre ++ ((es.take i).flatten ++ ((es.drop i).flatten ++ C)) ∧ (es.take i).flatten.length = i * sz ∧ (es.drop i).flatten.length = (es.length - i) * sz ∧ (cap - es.length) * sz ≤ C.length := by
  have hcl := h.room
  have h1 : es.length * sz ≤ cap * sz := Nat.mul_le_mul_right _ h.le
  have h2 : (cap - es.length) * sz = cap * sz - es.length * sz := Nat.sub_mul ..
  refine ⟨L.take o, (L.drop o).drop (es.length * sz), by simp; omega, ?_, ?_, ?_, ?_⟩
  · rw [← List.append_assoc (es.take i).flatten, ← List.flatten_append, List.take_append_drop, ← h.cells, List.take_append_drop, List.take_append_drop]
  · rw [flatten_len (fun e he => h.sizes e (List.mem_of_mem_take he)), List.length_take, Nat.min_eq_left hi]
  · rw [flatten_len (fun e he => h.sizes e (List.mem_of_mem_drop he)), List.length_drop]
  · rw [h2, List.drop_drop, List.length_drop]; omega

/-- An element put in between, where there is room. -/
theorem ins_cells {w : World} {b o sz cap i : Nat} {L c : List Value} {T : TypeId} {es : List (List Value)} (h : At w b o L T sz cap es) (hi : i ≤ es.length) (hroom : es.length + 1 ≤ cap) (hc : c.length = sz) :
    let L1 := over L (o + (i + 1) * sz) ((L.drop (o + i * sz)).take ((es.length - i) * sz))
    L1.length = L.length ∧ ((over L1 (o + i * sz) c).drop o).take ((es.length + 1) * sz) = (es.take i ++ c :: es.drop i).flatten ∧ (over L1 (o + i * sz) c).length = L.length := by
  obtain ⟨pre, C, hp, hL, hA, hB, hC⟩ := h.split i hi
  have hCsz : sz ≤ C.length := by
    have : 1 * sz ≤ (cap - es.length) * sz := Nat.mul_le_mul_right _ (by omega)
    omega
  generalize hAe : (es.take i).flatten = A at *
  generalize hBe : (es.drop i).flatten = B at *
  have e1 : (L.drop (o + i * sz)).take ((es.length - i) * sz) = B := by
    have : L.drop (o + i * sz) = B ++ C := drop_app' (X := pre ++ A) (by rw [hL]; simp) (by simp; omega)
    rw [this, ← hB, List.take_left]
  intro L1
  obtain ⟨X, Y, hXY, hX⟩ : ∃ X Y, B ++ C = X ++ Y ∧ X.length = sz := ⟨(B ++ C).take sz, (B ++ C).drop sz, by simp, by simp; omega⟩
  obtain ⟨Y1, Y2, hY, hY1⟩ : ∃ Y1 Y2, Y = Y1 ++ Y2 ∧ Y1.length = B.length := ⟨Y.take B.length, Y.drop B.length, by simp, by
    have := congrArg List.length hXY
    simp at this
    simp; omega⟩
  have eL1 : L1 = (pre ++ (A ++ X)) ++ (B ++ Y2) := by
    show over L (o + (i + 1) * sz) ((L.drop (o + i * sz)).take ((es.length - i) * sz)) = _
    rw [e1]
    refine over_app' (Y := Y1) ?_ ?_ hY1
    · rw [hL, hXY, hY]; simp
    · simp; rw [Nat.add_mul]; omega
  have eL2 : over L1 (o + i * sz) c = (pre ++ A) ++ (c ++ (B ++ Y2)) := by
    refine over_app' (Y := X) ?_ (by simp; omega) (by omega)
    rw [eL1]; simp
  have hlen := congrArg List.length hXY
  have hLl := congrArg List.length hL
  simp at hlen hLl
  refine ⟨?_, ?_, ?_⟩
  · rw [eL1]; simp; rw [hY] at hlen; simp at hlen; omega
  · rw [eL2, List.append_assoc, drop_app' rfl hp.symm]
    simp only [List.flatten_append, List.flatten_cons, hAe, hBe]
    rw [show A ++ (c ++ (B ++ Y2)) = (A ++ (c ++ B)) ++ Y2 by simp, take_app' rfl]
    simp [hA, hB, hc]
    rw [Nat.add_mul, Nat.sub_mul]
    have : i * sz ≤ es.length * sz := Nat.mul_le_mul_right _ hi
    omega
  · rw [eL2]; simp; rw [hY] at hlen; simp at hlen; omega
/-- An element put in between, in a new array. -/
theorem grow_cells {sz n i nc : Nat} {c zs : List Value} {es : List (List Value)} (hs : ∀ e ∈ es, e.length = sz) (hn : es.length = n) (hi : i ≤ n) (hroom : n + 1 ≤ nc) (hc : c.length = sz) (hz : zs.length = (nc - i) * sz) :
    let L := (es.take i).flatten ++ zs
    let L1 := over L (i * sz) c
    L1.length = L.length ∧ ((over L1 ((i + 1) * sz) (es.drop i).flatten).drop 0).take ((n + 1) * sz) = (es.take i ++ c :: es.drop i).flatten ∧ (over L1 ((i + 1) * sz) (es.drop i).flatten).length = L.length ∧ L.length = nc * sz ∧ (es.drop i).flatten.length = (n - i) * sz := by
  subst hn
  have hA : (es.take i).flatten.length = i * sz := by rw [flatten_len (fun e he => hs e (List.mem_of_mem_take he)), List.length_take, Nat.min_eq_left hi]
  have hB : (es.drop i).flatten.length = (es.length - i) * sz := by rw [flatten_len (fun e he => hs e (List.mem_of_mem_drop he)), List.length_drop]
  generalize hAe : (es.take i).flatten = A at *
  generalize hBe : (es.drop i).flatten = B at *
  intro L L1
  have m1 : i * sz ≤ es.length * sz := Nat.mul_le_mul_right _ hi
  have m2 : (es.length + 1) * sz ≤ nc * sz := Nat.mul_le_mul_right _ hroom
  rw [Nat.sub_mul] at hB hz
  rw [Nat.add_mul] at m2
  obtain ⟨X, Y, hXY, hX⟩ : ∃ X Y, zs = X ++ Y ∧ X.length = sz := ⟨zs.take sz, zs.drop sz, by simp, by simp; omega⟩
  subst hXY
  obtain ⟨Y1, Y2, hY, hY1⟩ : ∃ Y1 Y2, Y = Y1 ++ Y2 ∧ Y1.length = B.length := ⟨Y.take B.length, Y.drop B.length, by simp, by simp at hz; simp; omega⟩
  subst hY
  have eL1 : L1 = (A ++ c) ++ (Y1 ++ Y2) := by
    show over (A ++ (X ++ (Y1 ++ Y2))) (i * sz) c = _
    rw [over_app' rfl hA.symm (by omega)]; simp
  have eL2 : over L1 ((i + 1) * sz) B = (A ++ c) ++ (B ++ Y2) := over_app' eL1 (by simp; rw [Nat.add_mul]; omega) hY1
  simp at hz
  refine ⟨?_, ?_, ?_, ?_, ?_⟩
  · rw [eL1]; show _ = (A ++ (X ++ (Y1 ++ Y2))).length; simp; omega
  · rw [eL2, List.drop_zero]
    simp only [List.flatten_append, List.flatten_cons, hAe, hBe]
    rw [show (A ++ c) ++ (B ++ Y2) = (A ++ (c ++ B)) ++ Y2 by simp, take_app' rfl]
    simp [hA, hB, hc]
    rw [Nat.add_mul]
    omega
  · rw [eL2]; show _ = (A ++ (X ++ (Y1 ++ Y2))).length; simp; omega
  · show (A ++ (X ++ (Y1 ++ Y2))).length = _; simp; omega
  · rw [hB, Nat.sub_mul]
/-- An element taken out. -/
theorem del_cells {w : World} {b o sz cap i : Nat} {L zs : List Value} {T : TypeId} {es : List (List Value)} (h : At w b o L T sz cap es) (hi : i < es.length) (hz : zs.length = sz) :
    let L1 := over L (o + i * sz) (es.drop (i + 1)).flatten
    (es.drop (i + 1)).flatten = (L.drop (o + (i + 1) * sz)).take ((es.length - (i + 1)) * sz) ∧ L1.length = L.length ∧ ((over L1 (o + (es.length - 1) * sz) zs).drop o).take ((es.length - 1) * sz) = (es.take i ++ es.drop (i + 1)).flatten ∧ (over L1 (o + (es.length - 1) * sz) zs).length = L.length := by
  obtain ⟨pre, C, hp, hL, hA, hB, hC⟩ := h.split i (by omega)
  have hd : es.drop i = es[i] :: es.drop (i + 1) := by rw [List.drop_eq_getElem_cons hi]
  have hx : (es[i]).length = sz := h.sizes _ (List.getElem_mem hi)
  have hB' : (es.drop (i + 1)).flatten.length = (es.length - (i + 1)) * sz := by rw [flatten_len (fun e he => h.sizes e (List.mem_of_mem_drop he)), List.length_drop]
  rw [hd, List.flatten_cons] at hL
  generalize hAe : (es.take i).flatten = A at *
  generalize hBe : (es.drop (i + 1)).flatten = B at *
  generalize hxe : es[i] = x at *
  intro L1
  have m1 : (i + 1) * sz ≤ es.length * sz := Nat.mul_le_mul_right _ hi
  rw [Nat.sub_mul] at hB'
  rw [Nat.sub_mul, Nat.sub_mul, Nat.one_mul]
  rw [Nat.add_mul, Nat.one_mul] at *
  obtain ⟨X, Y, hXY, hX⟩ : ∃ X Y, x ++ B = X ++ Y ∧ X.length = B.length := ⟨(x ++ B).take B.length, (x ++ B).drop B.length, by simp, by simp⟩
  have hY : Y.length = sz := by have := congrArg List.length hXY; simp at this; omega
  have eL1 : L1 = (pre ++ A) ++ (B ++ (Y ++ C)) := by
    show over L (o + i * sz) B = _
    refine over_app' (Y := X) ?_ (by simp; omega) hX
    rw [hL, show (x ++ B) ++ C = (X ++ Y) ++ C by rw [hXY]]; simp
  have eL2 : over L1 (o + (es.length * sz - sz)) zs = (pre ++ (A ++ B)) ++ (zs ++ C) := over_app' (Y := Y) (by rw [eL1]; simp) (by simp; omega) (by omega)
  have hLl := congrArg List.length hL
  simp at hLl
  refine ⟨?_, ?_, ?_, ?_⟩
  · have : L.drop (o + (i * sz + sz)) = B ++ C := drop_app' (X := pre ++ (A ++ x)) (by rw [hL]; simp) (by simp; omega)
    rw [this, ← hB', List.take_left]
  · rw [eL1]; simp; omega
  · rw [eL2]
    rw [show (pre ++ (A ++ B)) ++ (zs ++ C) = pre ++ ((A ++ B) ++ (zs ++ C)) by simp, drop_app' rfl hp.symm, take_app' rfl (by simp; omega)]
    simp [hAe, hBe]
  · rw [eL2]; simp; omega

section
variable {P : Program} {e : Env} {w : World}
/-- 'x[l:h:m]' of a slice. -/
theorem pure_slice3 {t E : TypeId} {x y z u : Operand} {base : Option Addr} {len cap sz by_ l h m : Nat} {k1 k2 k3 : IntKind} (hx : ev e x = .slice base len cap) (hs : slk P t = some (E, sz, by_)) (hl : ev e y = .int k1 (l : Int)) (hh : ev e z = .int k2 (h : Int)) (hm : ev e u = .int k3 (m : Int)) (h1 : l ≤ h) (h2 : h ≤ m) (h3 : m ≤ cap) :
    PureOp P e (.slice t x (some y) (some z) (some u)) (.slice (if m = l then base else base.map (·.add (l * sz))) (h - l) (m - l)) := fun op ho w => by
  obtain ⟨hu, inf, hi', hsz, _⟩ := slk_spec hs
  have hb : (Instr.sliceBounds true len cap (some (ev e y)) (some (ev e z)) (some (ev e u))).run P w = .ok (l, h, m) w := by
    unfold Instr.sliceBounds
    simp only [Sem.run_bind, Sem.run_pure, Result.andThen, bound_run hm h3, bound_run hh h2, bound_run hl h1]
  unfold execOp
  simp only [ho]
  unfold Instr.sliceAt
  simp only [Sem.run_bind, run_und hu, Result.andThen, hx]
  unfold Instr.slice
  simp only [Sem.run_bind, run_und hu, Result.andThen, Option.map_some, hb, run_size hi', Sem.run_pure, hsz]
theorem PureOp.cast {op : Op} {v v' : Value} (h : PureOp P e op v) (hv : v = v') : PureOp P e op v' := hv ▸ h
/-- 'x[:h]'. -/
theorem pure_sliceTo {t E : TypeId} {x y : Operand} {base : Option Addr} {len cap sz by_ h : Nat} {kd : IntKind} (hx : ev e x = .slice base len cap) (hs : slk P t = some (E, sz, by_)) (hh : ev e y = .int kd (h : Int)) (h2 : h ≤ cap) :
    PureOp P e (.slice t x none (some y) none) (.slice base h cap) :=
  (pure_slice (lo := none) (hi := some y) (l := 0) (h := h) hx hs rfl ⟨kd, hh⟩ (Nat.zero_le _) h2).cast (by
    rw [Nat.zero_mul, Nat.sub_zero, Nat.sub_zero]
    congr 1
    split
    · rfl
    · cases base with
      | none => rfl
      | some a => simp only [Option.map_some, Option.some.injEq]; cases a; simp only [Addr.add]; split <;> simp_all)
/-- 'x[l:]'. -/
theorem pure_sliceFrom {t E : TypeId} {x y : Operand} {b o len cap sz by_ l : Nat} {kd : IntKind} (hx : ev e x = .slice (some ⟨b, o, none⟩) len cap) (hs : slk P t = some (E, sz, by_)) (hl : ev e y = .int kd (l : Int)) (h1 : l ≤ len) (h2 : len ≤ cap) (h3 : l < cap) :
    PureOp P e (.slice t x (some y) none none) (.slice (some ⟨b, o + l * sz, none⟩) (len - l) (cap - l)) :=
  (pure_slice (lo := some y) (hi := none) (l := l) (h := len) hx hs ⟨kd, hl⟩ rfl h1 h2).cast (by rw [if_neg (by omega)]; simp only [Option.map_some, add_plain])
/-- 'x[l:h]'. -/
theorem pure_sliceMid {t E : TypeId} {x y z : Operand} {b o len cap sz by_ l h : Nat} {k1 k2 : IntKind} (hx : ev e x = .slice (some ⟨b, o, none⟩) len cap) (hs : slk P t = some (E, sz, by_)) (hl : ev e y = .int k1 (l : Int)) (hh : ev e z = .int k2 (h : Int)) (h1 : l ≤ h) (h2 : h ≤ cap) (h3 : l < cap) :
    PureOp P e (.slice t x (some y) (some z) none) (.slice (some ⟨b, o + l * sz, none⟩) (h - l) (cap - l)) :=
  (pure_slice (lo := some y) (hi := some z) (l := l) (h := h) hx hs ⟨k1, hl⟩ ⟨k2, hh⟩ h1 h2).cast (by rw [if_neg (by omega)]; simp only [Option.map_some, add_plain])

/-- append where there is room. -/
theorem append_in_run {t E E2 T at2 : TypeId} {sz by_ m k b o cap : Nat} {L new : List Value} {x y : Operand} {xv : Value} (hs : slk P t = some (E, sz, by_)) (h2 : P.underlying at2 = some (.slice E2)) (hx : ev e x = .slice (some ⟨b, o, none⟩) m cap) (hy : ev e y = xv) (hb : Blk w b L T) (hX : SlR w sz xv k new)
    (hroom : m + k ≤ cap) (hL : o + cap * sz ≤ L.length) (h1 : ∀ u ∈ new, u.oneCell' = true) (op : Oper) (ho : op.op = .call { callee := .builtin .append, args := #[x, y], argTypes := #[t, at2] }) :
    (execOp (ev e) op).run P w = .ok (.value (.slice (some ⟨b, o, none⟩) (m + k) cap)) (turned w b (.cells (over L (o + m * sz) new).toArray T)) := by
  obtain ⟨hu, inf, hi, hsz, hbs⟩ := slk_spec hs
  have hnew : new.length = k * sz := hX.length
  have hlx := len_run (P := P) hX
  have hfx : (Builtin.firstCells sz k xv).run P w = .ok new.toArray w := by rw [first_run hX (Nat.le_refl _), List.take_of_length_le (by omega)]
  have hle : (m + k) * sz ≤ cap * sz := Nat.mul_le_mul_right _ hroom
  have hsplit : (m + k) * sz = m * sz + k * sz := Nat.add_mul ..
  have hst := run_storeCells (P := P) new (o + m * sz) 0 L w hb (by omega) h1
  refine builtin_run _ (fun _ _ _ _ => rfl) op ho ?_
  simp only [List.map_toArray, List.map_cons, List.map_nil, hx, hy]
  unfold Builtin.append_
  simp [Sem.run_bind, run_und hu, run_und h2, run_size hi, Result.andThen, hlx, hsz, hfx, hroom, add_plain, hst]

/-- Two slices in two blocks do not overlap. -/
theorem overlaps_run {f : FuncId} {fn : Func} {tS tR E : TypeId} {sz : Nat} {vb vo b o la ca lb cb : Nat} {V L : List Value} {TV T : TypeId} {c : Call} {by_ : Nat} (hf : P.funcs[f]? = some fn) (hname : (fn.name == "runtime.NumGoroutine") = false)
    (hb : fn.body.isNone = true) (hn : Extern.findNext fn = none) (he : Extern.find fn = some (Extern.SlicesOverlaps.overlaps #[tS, tS] #[tR])) (hs : slk P tS = some (E, sz, by_)) (hc : callee e c = some (f, #[.slice (some ⟨vb, vo, none⟩) la ca, .slice (some ⟨b, o, none⟩) lb cb]))
    (hne : vb ≠ b) (hV : Blk w vb V TV) (hL : Blk w b L T) (hLp : L ≠ []) (op : Oper) (ho : op.op = .call c) : (execOp (ev e) op).run P w = .ok (.value (.bool false)) w := by
  obtain ⟨hu, inf, hi, hsz, hbs⟩ := slk_spec hs
  have h1 : (callFunc f #[.slice (some ⟨vb, vo, none⟩) la ca, .slice (some ⟨b, o, none⟩) lb cb]).run P w = .ok (.value (.bool false)) w := by
    rw [run_callFunc_extern hf hname hb hn he]
    unfold Blk at hV hL
    rw [Lib.run_overlaps_apart w tS tR E hu sz (fun w => by rw [run_size hi, hsz]) ⟨vb, vo, none⟩ ⟨b, o, none⟩ la ca lb cb hne TV T V.length L.length (by simp [World.shape?, hV]) (by simp [World.shape?, hL]) (fun h => hLp (List.length_eq_zero_iff.1 h))
      (by simp [World.frozen?, hV]) (by simp [World.frozen?, hV])]
    rfl
  unfold callee at hc
  unfold execOp
  simp only [ho]
  unfold resolve
  split at hc
  · rename_i g hg
    split at hc
    · rename_i g' first cap hv
      simp only [Option.some.injEq, Prod.mk.injEq] at hc
      obtain ⟨rfl, hargs⟩ := hc
      simp only [hg, hv, Deferred.ofValue, Sem.run_bind, Sem.run_pure, Result.andThen, invoke]
      rw [hargs]
      exact h1
    · cases hc
  · cases hc

theorem slr_blk {b o m cap sz : Nat} {L : List Value} {T : TypeId} (h : Blk w b L T) (h1 : m ≤ cap) (h2 : o + cap * sz ≤ L.length) : SlR w sz (.slice (some ⟨b, o, none⟩) m cap) m ((L.drop o).take (m * sz)) := .inr ⟨b, o, cap, L, T, rfl, h, h1, h2, rfl⟩
theorem At.pref {b o sz cap i : Nat} {L : List Value} {T : TypeId} {es : List (List Value)} (h : At w b o L T sz cap es) (hi : i ≤ es.length) : SlR w sz (.slice (some ⟨b, o, none⟩) i cap) i (es.take i).flatten := by
  refine .inr ⟨b, o, cap, L, T, rfl, h.blk, Nat.le_trans hi h.le, h.room, ?_⟩
  rw [← flatten_take h.sizes, ← h.cells, List.take_take, Nat.min_eq_left (Nat.mul_le_mul_right _ hi)]
theorem At.suff {b o sz cap i : Nat} {L : List Value} {T : TypeId} {es : List (List Value)} (h : At w b o L T sz cap es) (hi : i ≤ es.length) : SlR w sz (.slice (some ⟨b, o + i * sz, none⟩) (es.length - i) (cap - i)) (es.length - i) (es.drop i).flatten := by
  have hle := h.le
  have hr := h.room
  have e1 : (cap - i) * sz = cap * sz - i * sz := Nat.sub_mul ..
  have e2 : i * sz ≤ cap * sz := Nat.mul_le_mul_right _ (by omega)
  refine .inr ⟨b, o + i * sz, cap - i, L, T, rfl, h.blk, by omega, by omega, ?_⟩
  rw [← flatten_drop h.sizes, ← h.cells, List.drop_take, List.drop_drop, Nat.sub_mul]
theorem At.dropcells {b o sz cap i : Nat} {L : List Value} {T : TypeId} {es : List (List Value)} (h : At w b o L T sz cap es) : (L.drop (o + i * sz)).take ((es.length - i) * sz) = (es.drop i).flatten := by
  rw [← flatten_drop h.sizes, ← h.cells, List.drop_take, List.drop_drop, Nat.sub_mul]
section
variable {α : Type} {f : α → List Value} {xs : List α} {x : α} {b o sz cap i : Nat} {L : List Value} {T : TypeId}
theorem At.prefT (h : At w b o L T sz cap (xs.map f)) (hi : i ≤ xs.length) : SlR w sz (.slice (some ⟨b, o, none⟩) i cap) i ((xs.map f).take i).flatten := h.pref (by simpa using hi)
theorem At.suffT (h : At w b o L T sz cap (xs.map f)) (hi : i ≤ xs.length) : SlR w sz (.slice (some ⟨b, o + i * sz, none⟩) (xs.length - i) (cap - i)) (xs.length - i) ((xs.map f).drop i).flatten := by
  have := h.suff (i := i) (by simpa using hi)
  rwa [List.length_map] at this
theorem At.fromT (h : At w b o L T sz cap (xs.map f)) (hi : i ≤ xs.length) : SlR w sz (.slice (if cap = i then some ⟨b, o, none⟩ else (some ⟨b, o, none⟩ : Option Addr).map (·.add (i * sz))) (xs.length - i) (cap - i)) (xs.length - i) ((xs.map f).drop i).flatten := by
  by_cases hc : cap = i
  · have hle := h.le
    rw [List.length_map] at hle
    have hr := h.room
    rw [if_pos hc, show xs.length - i = 0 by omega, show cap - i = 0 by omega, List.drop_of_length_le (by simp; omega)]
    exact .inr ⟨b, o, 0, L, T, rfl, h.blk, Nat.le_refl _, by omega, by simp⟩
  · rw [if_neg hc]
    simp only [Option.map_some, add_plain]
    have := h.suff (i := i) (by simpa using hi)
    rwa [List.length_map] at this
theorem slr_one {c : List Value} (h : Blk w b c T) (hc : c.length = sz) : SlR w sz (.slice (some ⟨b, 0, none⟩) 1 1) 1 c :=
  .inr ⟨b, 0, 1, c, T, rfl, h, Nat.le_refl _, by omega, by rw [List.drop_zero, List.take_of_length_le (by omega)]⟩
theorem ins_slt (hB : Blk w b L T) (hi : i ≤ xs.length) (hcap : xs.length + 1 ≤ cap) (hroom : o + cap * sz ≤ L.length) (hc : (L.drop o).take (((xs.map f).length + 1) * sz) = ((xs.map f).take i ++ f x :: (xs.map f).drop i).flatten) (hf : ∀ x, (f x).length = sz) : SlT w sz f (some ⟨b, o, none⟩) cap (xs.take i ++ x :: xs.drop i) := by
  have hl : (xs.take i ++ x :: xs.drop i).length = xs.length + 1 := by simp; omega
  rw [List.length_map] at hc
  refine .inr ⟨b, o, L, T, rfl, hB, by simp; omega, hroom, ?_, ?_⟩
  · rw [List.length_map, hl, hc]; simp [List.map_take, List.map_drop]
  · intro e he; obtain ⟨y, _, rfl⟩ := List.mem_map.1 he; exact hf y
theorem del_slt (hB : Blk w b L T) (hi : i < xs.length) (hcap : xs.length ≤ cap) (hroom : o + cap * sz ≤ L.length) (hc : (L.drop o).take (((xs.map f).length - 1) * sz) = ((xs.map f).take i ++ (xs.map f).drop (i + 1)).flatten) (hf : ∀ x, (f x).length = sz) : SlT w sz f (some ⟨b, o, none⟩) cap (xs.take i ++ xs.drop (i + 1)) := by
  have hl : (xs.take i ++ xs.drop (i + 1)).length = xs.length - 1 := by simp; omega
  rw [List.length_map] at hc
  refine .inr ⟨b, o, L, T, rfl, hB, by simp; omega, hroom, ?_, ?_⟩
  · rw [List.length_map, hl, hc]; simp [List.map_take, List.map_drop]
  · intro e he; obtain ⟨y, _, rfl⟩ := List.mem_map.1 he; exact hf y
end
theorem one_all {a : Array Value} (h : a.toList.all (fun u => u.oneCell') = true) : ∀ u ∈ a, u.oneCell' = true := fun u hu => List.all_eq_true.1 h u (Array.mem_toList_iff.2 hu)
theorem one_all' {a : List Value} (h : a.all (fun u => u.oneCell') = true) : ∀ u ∈ a, u.oneCell' = true := fun u hu => List.all_eq_true.1 h u hu
theorem one_flat {α : Type} {f : α → List Value} (h : ∀ x, ∀ u ∈ f x, u.oneCell' = true) {xs : List α} : ∀ u ∈ xs.flatMap f, u.oneCell' = true := by
  intro u hu
  obtain ⟨x, _, hx⟩ := List.mem_flatMap.1 hu
  exact h x u hx
theorem one_flatten {α : Type} {f : α → List Value} (h : ∀ x, ∀ u ∈ f x, u.oneCell' = true) {xs : List α} : ∀ u ∈ (xs.map f).flatten, u.oneCell' = true := by
  rw [← List.flatMap_def]; exact one_flat h
end
section
variable {P : Program} {r : Option Nat} {n : Nat} {ds : List Deferred} {ops : Array Oper} {Q : Post} {i : Nat} {e : Env} {w : World}
/-- append of a made slice, in a new array. -/
theorem OI_appmake {t E at2 : TypeId} {sz by_ m k N : Nat} {kd : IntKind} {zv s : Value} {old : List Value} {base : Option Addr} {cap : Nat} (x y : Operand) (d : Option Tmp) (h : site ops e i = some (d, .call { callee := .builtin .append, args := #[x, y], argTypes := #[t, at2] })) (hx : ev e x = s) (hy : ev e y = .int .i64 (k : Int))
    (hs : slk P t = some (E, sz, by_)) (hz : zeroV P E = some zv) (hzl : zv.cells.size = sz) (hsv : s = .slice base m cap) (hS : SlR w sz s m old)
    (hcap : cap < m + k) (hb : (m + k) * by_ ≤ 1099511627776) (hby : by_ ≤ 1048576) (hmk : m + k ≤ 1099511627776) (h2 : P.underlying at2 = some (.int kd)) (hN : m + k = N)
    (kk : ∀ b' nc zs w', b' = w.heap.size → N ≤ nc → zs.length = (nc - m) * sz → Blk w' b' (old ++ zs) E → Keep none_ w w' → w'.heap.size = b' + 1 → OI P r n ds ops Q (i + 1) (putE n d (.slice (some ⟨b', 0, none⟩) N nc) e) w') : OI P r n ds ops Q i e w :=
  OI_do h fun o _ ho hd a ha he => by
    subst hN
    obtain ⟨b', nc, zs, hr, hb', hnc, hzs⟩ := appmake_run (P := P) hs hz hzl hsv hS hcap hb hby hmk h2 o.type
    subst hb'
    refine does_value (v := .slice (some ⟨w.heap.size, 0, none⟩) (m + k) nc) (w' := laid w.drew (.cells (old ++ zs).toArray E)) ?_ (by rw [hd]; exact kk _ nc zs _ rfl hnc hzs (laid_blk w.drew _ _) (((Keep.refl none_ w).drew (w.drawn + 1)).tr (laid_keep _ _ (by intro c t f hc; cases hc; rfl))) (laid_size w.drew _) _ (ha.put d _))
    rw [he]
    exact builtin_run _ (fun _ _ _ _ => rfl) o ho (by simp only [List.map_toArray, List.map_cons, List.map_nil, hx, hy]; exact hr)
variable {act : Nat → Bool} {S : Nat → Prop} {w1 w' : World} {l : List Nat}
/-- A load that stands as one that acts: from what lies there now. -/
theorem GI_cellA {T : TypeId} {b m : Nat} {L : List Value} (t : TypeId) (x : Operand) (o : Nat) (v : Value) (d : Option Tmp) (h : site ops e i = some (d, .load t x)) (hact : act i = true) (hK : Keep S w1 w) (hx : ev e x = .pointer (some ⟨b, o, none⟩)) (hb : Blk w b L T) (ht : tk P t = some (false, m)) (hv : L[o]? = some v)
    (k : GI P r n ds ops Q act S w1 l (putE n d v e) w) : GI P r n ds ops Q act S w1 (i :: l) e w :=
  GI_value d _ h hact (fun o' ho => by
    have hl := loads_cell (P := P) hb ht hv
    unfold Loads at hl
    unfold execOp
    simp only [ho, hx, Sem.run_bind, hl, Result.andThen, Sem.run_pure]) hK k
end

/-! ### Where ways join -/
def joinPost (n : Nat) (ds : List Deferred) (J : World → Env → Prop) (Q : Post) : Post := fun x a w => match x with | .normal => ∃ e, J w e ∧ Has n ds e a | x => Q x a w
section
variable {P : Program} {r : Option Nat} {n : Nat} {ds : List Deferred} {Q : Post} {e : Env} {w : World} {c x y : Code} {J : World → Env → Prop}
theorem V_blockJ {id : Nat} (J : World → Env → Prop) (h : V P r n ds c (Exit.inBlock id (joinPost n ds J Q)) e w) (k : ∀ w e, J w e → XV n ds .normal Q e w) : V P r n ds (.block id c) Q e w := fun a ha =>
  W_mono (W_block (h a ha)) fun x a w hq => by
    cases x <;> first | exact hq | (obtain ⟨e, hj, hh⟩ := hq; exact k w e hj a hh)
theorem V_seqJ (J : World → Env → Prop) (h : V P r n ds x (joinPost n ds J Q) e w) (k : ∀ w e, J w e → V P r n ds y Q e w) : V P r n ds (.seq x y) Q e w := fun a ha =>
  W_seq (W_mono (h a ha) fun x a w hq => by
    cases x <;> first | exact hq | (obtain ⟨e, hj, hh⟩ := hq; exact k w e hj a hh))
theorem X_join (e' : Env) (h : pick (e'.map (·.1)) e = some e') (hj : J w e') : XV n ds .normal (joinPost n ds J Q) e w := fun _ ha => ⟨e', hj, ha.weaken (pick_look _ _ _ h)⟩
theorem X_exit_join {id : Nat} (h : XV n ds (.exit id) Q e w) : XV n ds (.exit id) (joinPost n ds J Q) e w := h
theorem X_ret_join (h : XV n ds .ret Q e w) : XV n ds .ret (joinPost n ds J Q) e w := h
theorem sure_join (h : Sure Q) : Sure (joinPost n ds J Q) := ⟨fun c a w => h.panic c a w, fun a w => h.outgrown a w⟩
end
section
variable {α : Type} {f : α → List Value} {xs : List α} {sz cap i : Nat} {w : World} {A : Option Addr}
theorem SlT.to (h : SlT w sz f A cap xs) (hi : i ≤ xs.length) : SlT w sz f A cap (xs.take i) := by
  rcases h with ⟨rfl, rfl, h0⟩ | ⟨b, o, L, T, rfl, hb, h1, h2, h3, h4⟩
  · obtain rfl : xs = [] := by simpa using h0
    exact .inl ⟨rfl, rfl, by simp⟩
  · have hm := h1
    rw [List.length_map] at hm
    refine .inr ⟨b, o, L, T, rfl, hb, by simp; omega, h2, ?_, fun e he => h4 e (by rw [List.map_take] at he; exact List.mem_of_mem_take he)⟩
    rw [List.length_map, List.length_take, Nat.min_eq_left hi, List.map_take, ← flatten_take h4, ← h3, List.take_take, List.length_map, Nat.min_eq_left (Nat.mul_le_mul_right _ hi)]
def sufA (A : Option Addr) (cap i sz : Nat) : Option Addr := if cap = i then A else A.map (·.add (i * sz))
theorem SlT.from_ (h : SlT w sz f A cap xs) (hi : i ≤ xs.length) : SlT w sz f (sufA A cap i sz) (cap - i) (xs.drop i) := by
  rcases h with ⟨rfl, rfl, h0⟩ | ⟨b, o, L, T, rfl, hb, h1, h2, h3, h4⟩
  · obtain rfl : xs = [] := by simpa using h0
    refine .inl ⟨?_, by omega, by simp⟩
    unfold sufA; split <;> rfl
  · have hm := h1
    rw [List.length_map] at hm
    have e1 : (cap - i) * sz = cap * sz - i * sz := Nat.sub_mul ..
    have e2 : i * sz ≤ cap * sz := Nat.mul_le_mul_right _ (by omega)
    have e3 : (xs.drop i).length * sz = (xs.map f).length * sz - i * sz := by rw [List.length_drop, List.length_map, Nat.sub_mul]
    unfold sufA
    by_cases hc : cap = i
    · rw [if_pos hc]
      refine .inr ⟨b, o, L, T, rfl, hb, by simp; omega, by rw [show cap - i = 0 by omega]; omega, ?_, fun e he => h4 e (by rw [List.map_drop] at he; exact List.mem_of_mem_drop he)⟩
      have : xs.drop i = [] := List.drop_of_length_le (by omega)
      rw [this]; simp
    · rw [if_neg hc]
      refine .inr ⟨b, o + i * sz, L, T, by simp only [Option.map_some, add_plain], hb, by simp; omega, by omega, ?_, fun e he => h4 e (by rw [List.map_drop] at he; exact List.mem_of_mem_drop he)⟩
      rw [List.length_map, e3, List.map_drop, ← flatten_drop h4, ← h3, List.drop_take, List.drop_drop]
theorem inA_suf {k : Nat} (h : inA (sufA A cap i sz) k) : inA A k := by
  unfold sufA at h
  split at h
  · exact h
  · obtain ⟨a, ha, rfl⟩ := h
    cases A with
    | none => cases ha
    | some a' => simp only [Option.map_some, Option.some.injEq] at ha; refine ⟨a', rfl, ?_⟩; subst ha; cases a'; simp only [Addr.add]; split <;> rfl
variable {P : Program} {e : Env}
/-- 'x[l:]', wherever it is. -/
theorem pure_sliceSuf {t E : TypeId} {x y : Operand} {len by_ l : Nat} {kd : IntKind} (hx : ev e x = .slice A len cap) (hs : slk P t = some (E, sz, by_)) (hl : ev e y = .int kd (l : Int)) (h1 : l ≤ len) (h2 : len ≤ cap) :
    PureOp P e (.slice t x (some y) none none) (.slice (sufA A cap l sz) (len - l) (cap - l)) := pure_slice (lo := some y) (hi := none) (l := l) (h := len) hx hs ⟨kd, hl⟩ rfl h1 h2
end

/-- The blocks from N on. -/
abbrev ge_ (N : Nat) : Nat → Prop := fun k => N ≤ k
theorem blkOf_inA {A : Option Addr} {m cap k : Nat} (h : blkOf (.slice A m cap) k) : inA A k := by
  cases A with
  | none => exact h.elim
  | some a => exact ⟨a, rfl, h⟩
/-- append of one element to a slice of elements, said over elements. -/
theorem app_one {α : Type} {w w' : World} {sz cap : Nat} {A : Option Addr} {f : α → List Value} {xs : List α} {x : α} {v : Value} (h : Appended w sz (.slice A xs.length cap) xs.length (xs.flatMap f) (f x) 1 v w') (hs : ∀ x ∈ xs, (f x).length = sz) (hx : (f x).length = sz) :
    ∃ A' cap', v = .slice A' (xs ++ [x]).length cap' ∧ SlT w' sz f A' cap' (xs ++ [x]) ∧ Keep (inA A) w w' ∧ (∀ k, inA A' k → inA A k ∨ w.heap.size ≤ k) := by
  obtain ⟨A', cap', hv, h1, h2⟩ := SlT.of (f := f) (xs := xs ++ [x]) h.holds (by simp) (by simp) (by
    intro y hy
    rcases List.mem_append.1 hy with hy | hy
    · exact hs y hy
    · rw [List.mem_singleton.1 hy]; exact hx)
  refine ⟨A', cap', by rw [hv]; simp, h1, h.keep.mono (fun k _ hk => blkOf_inA hk), fun k hk => (h.own k (h2 k hk)).imp blkOf_inA id⟩

/-! ### A store into one element -/
theorem over_mid {X Y Z : List Value} {k : Nat} {v : Value} (hk : k < Y.length) : over (X ++ (Y ++ Z)) (X.length + k) [v] = X ++ (over Y k [v] ++ Z) := by
  obtain ⟨Y1, y, Y2, rfl, hY1⟩ : ∃ Y1 y Y2, Y = Y1 ++ y :: Y2 ∧ Y1.length = k := ⟨Y.take k, Y[k], Y.drop (k + 1), by rw [← List.drop_eq_getElem_cons hk, List.take_append_drop], by simp; omega⟩
  have e1 : over (Y1 ++ y :: Y2) k [v] = Y1 ++ ([v] ++ Y2) := over_app' (Y := [y]) (by simp) hY1.symm rfl
  rw [e1]
  have e2 : over (X ++ ((Y1 ++ y :: Y2) ++ Z)) (X.length + k) [v] = (X ++ Y1) ++ ([v] ++ (Y2 ++ Z)) := over_app' (Y := [y]) (by simp) (by simp [hY1]) rfl
  rw [e2]
  simp
theorem At.set {α : Type} {w w' : World} {b o sz cap i k : Nat} {L : List Value} {T : TypeId} {f : α → List Value} {xs : List α} {x y : α} {v : Value} (h : At w b o L T sz cap (xs.map f)) (hx : xs[i]? = some x) (hk : k < sz) (hy : over (f x) k [v] = f y) (hB : Blk w' b (over L (o + i * sz + k) [v]) T) :
    At w' b o (over L (o + i * sz + k) [v]) T sz cap ((xs.set i y).map f) := by
  obtain ⟨hi, rfl⟩ := List.getElem?_eq_some_iff.1 hx
  have hlen : (f xs[i]).length = sz := h.sizes _ (List.mem_map.2 ⟨_, List.getElem_mem hi, rfl⟩)
  have hylen : (f y).length = sz := by rw [← hy, over_length (by simp; omega), hlen]
  obtain ⟨pre, C, hp, hL, hA, hB', hC⟩ := h.split i (by simp; omega)
  have hd : (xs.map f).drop i = f xs[i] :: (xs.map f).drop (i + 1) := by rw [List.drop_eq_getElem_cons (by simpa using hi)]; simp
  rw [hd, List.flatten_cons] at hL
  have eL : over L (o + i * sz + k) [v] = (pre ++ ((xs.map f).take i).flatten) ++ (f y ++ (((xs.map f).drop (i + 1)).flatten ++ C)) := by
    rw [hL, ← hy, show pre ++ (((xs.map f).take i).flatten ++ (f xs[i] ++ ((xs.map f).drop (i + 1)).flatten ++ C)) = (pre ++ ((xs.map f).take i).flatten) ++ (f xs[i] ++ (((xs.map f).drop (i + 1)).flatten ++ C)) by simp]
    rw [show o + i * sz + k = (pre ++ ((xs.map f).take i).flatten).length + k by rw [List.length_append, hA, hp]]
    exact over_mid (by omega)
  have hset : (xs.set i y).map f = (xs.map f).take i ++ f y :: (xs.map f).drop (i + 1) := by
    rw [List.set_eq_take_append_cons_drop, if_pos hi]; simp [List.map_take, List.map_drop]
  have hsz : ∀ e ∈ (xs.set i y).map f, e.length = sz := by
    intro e he
    rw [hset] at he
    rcases List.mem_append.1 he with he | he
    · exact h.sizes e (List.mem_of_mem_take he)
    · rcases List.mem_cons.1 he with rfl | he
      · exact hylen
      · exact h.sizes e (List.mem_of_mem_drop he)
  have hle := h.le
  have hro := h.room
  have hbound : (i + 1) * sz ≤ xs.length * sz := Nat.mul_le_mul_right _ hi
  have hcap : (xs.map f).length * sz ≤ cap * sz := Nat.mul_le_mul_right _ hle
  rw [List.length_map] at hcap hle
  rw [Nat.add_mul] at hbound
  refine ⟨hB, by simpa using hle, by rw [over_length (by simp; omega)]; exact hro, ?_, hsz⟩
  have hfl : ((xs.set i y).map f).flatten.length = xs.length * sz := by rw [flatten_len hsz]; simp
  rw [List.length_map, List.length_set, eL, List.append_assoc, drop_app' rfl hp.symm, hset]
  rw [hset] at hfl
  rw [show ((xs.map f).take i).flatten ++ (f y ++ (((xs.map f).drop (i + 1)).flatten ++ C)) = ((xs.map f).take i ++ f y :: (xs.map f).drop (i + 1)).flatten ++ C by simp]
  exact take_app' rfl hfl.symm
end Go.Al
