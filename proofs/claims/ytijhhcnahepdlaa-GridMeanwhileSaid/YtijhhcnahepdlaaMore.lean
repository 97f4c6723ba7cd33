/-
  More operations: slice literals, copy, clear, append of a made slice; integers within their range.
-/
import Derived.Test.YtijhhcnahepdlaaPure
import Derived.Great.FillDense
namespace Go.Al
open Go Go.RowKit

section
variable {P : Program} {r : Option Nat} {n : Nat} {ds : List Deferred} {ops : Array Oper} {Q : Post} {act : Nat → Bool} {S : Nat → Prop} {w1 : World} {i : Nat} {l : List Nat} {e : Env} {w w' : World} {op : Op}

/-- A literal of a slice: its elements' cells in a new block. -/
theorem slit_run {t E : TypeId} {len sz by_ : Nat} {parts : Array (Nat × Operand)} {zv : Value} (vs : List Value) (hs : slk P t = some (E, sz, by_)) (hz : zeroV P E = some zv) (hsz : 0 < sz) (hlen : vs.length = len) (hsm : len * sz ≤ 65536) (h1 : ∀ v ∈ vs, v.cells.size = sz)
    (hp : (parts.map fun (i, x) => (i, ev e x)).toList = (vs.zipIdx 0).map fun x => (x.2, x.1)) (o : Oper) (ho : o.op = .buildSlice t len parts) :
    (execOp (ev e) o).run P w = .ok (.value (.slice (some ⟨w.heap.size, 0, none⟩) len len)) (laid w (.cells (vs.flatMap fun v => v.cells.toList).toArray E)) := by
  obtain ⟨hu, inf, hi, hsi, _⟩ := slk_spec hs
  unfold execOp
  simp only [ho]
  unfold Instr.buildSlice
  have hbig : ¬ (len * inf.size > 2 ^ 24) := by rw [hsi]; omega
  by_cases h0 : len = 0
  · subst h0
    have hv0 : vs = [] := List.length_eq_zero_iff.1 hlen
    subst hv0
    simp only [Sem.run_bind, run_und hu, run_size hi, Result.andThen, Nat.zero_mul, if_neg (by omega : ¬ (0 > 2 ^ 24)), if_true, Sem.run_pure, hp, List.zipIdx_nil, List.map_nil, Instr.fill, show Array.range 0 = #[] from by simp, List.map_toArray]
    rfl
  · have hpos : ¬ (len * inf.size = 0) := by
      rw [hsi]
      exact Nat.mul_ne_zero h0 (by omega)
    have hf := Go.Great.fill_whole hsz vs ((Array.range (len * sz)).map (zv.cells[· % zv.cells.size]!)) h1 (by simp [hlen])
    simp only [Sem.run_bind, run_und hu, run_size hi, Result.andThen, hbig, if_false, hpos, zeroV_run hz, Sem.run_pure, hp]
    simp only [hsi, hf]
    rfl
theorem OI_slit {E : TypeId} {sz by_ : Nat} {zv : Value} (t : TypeId) (len : Nat) (parts : Array (Nat × Operand)) (vs : List Value) (L : List Value) (d : Option Tmp) (h : site ops e i = some (d, .buildSlice t len parts)) (hs : slk P t = some (E, sz, by_)) (hz : zeroV P E = some zv) (hsz : 0 < sz) (hlen : vs.length = len) (hsm : len * sz ≤ 65536) (h1 : ∀ v ∈ vs, v.cells.size = sz)
    (hp : (parts.map fun (i, x) => (i, ev e x)).toList = (vs.zipIdx 0).map fun x => (x.2, x.1)) (hL : (vs.flatMap fun v => v.cells.toList) = L)
    (k : ∀ b w', b = w.heap.size → Blk w' b L E → Keep none_ w w' → w'.heap.size = b + 1 → OI P r n ds ops Q (i + 1) (putE n d (.slice (some ⟨b, 0, none⟩) len len) e) w') : OI P r n ds ops Q i e w := by
  subst hL
  exact OI_laid d _ h (fun o ho => slit_run vs hs hz hsz hlen hsm h1 hp o ho) (fun w' => k _ w' rfl)
theorem GI_slit {E : TypeId} {sz by_ : Nat} {zv : Value} (t : TypeId) (len : Nat) (parts : Array (Nat × Operand)) (vs : List Value) (L : List Value) (d : Option Tmp) (h : site ops e i = some (d, .buildSlice t len parts)) (hact : act i = true) (hK : Keep S w1 w) (hs : slk P t = some (E, sz, by_)) (hz : zeroV P E = some zv) (hsz : 0 < sz) (hlen : vs.length = len) (hsm : len * sz ≤ 65536) (h1 : ∀ v ∈ vs, v.cells.size = sz)
    (hp : (parts.map fun (i, x) => (i, ev e x)).toList = (vs.zipIdx 0).map fun x => (x.2, x.1)) (hL : (vs.flatMap fun v => v.cells.toList) = L)
    (k : ∀ b w', b = w.heap.size → Blk w' b L E → Keep none_ w w' → w'.heap.size = b + 1 → Keep S w1 w' → GI P r n ds ops Q act S w1 l (putE n d (.slice (some ⟨b, 0, none⟩) len len) e) w') : GI P r n ds ops Q act S w1 (i :: l) e w := by
  subst hL
  exact GI_laid d _ h hact hK (fun o ho => slit_run vs hs hz hsz hlen hsm h1 hp o ho) (fun w' => k _ w' rfl)

/-- An operation that turns one block. -/
theorem OI_turn {b : Nat} {L : List Value} {T : TypeId} {v : Value} (d : Option Tmp) (op : Op) (h : site ops e i = some (d, op)) (hb : b < w.heap.size) (hx : ∀ o : Oper, o.op = op → (execOp (ev e) o).run P w = .ok (.value v) (turned w b (.cells L.toArray T)))
    (k : ∀ w', Blk w' b L T → Keep (only b) w w' → w'.heap.size = w.heap.size → OI P r n ds ops Q (i + 1) (putE n d v e) w') : OI P r n ds ops Q i e w :=
  OI_value h hx (k _ (turned_blk _ _ hb) (turned_keep (by intro c t f hc; cases hc; rfl)) (turned_size _ _ _))
theorem GI_turn {b : Nat} {L : List Value} {T : TypeId} {v : Value} (d : Option Tmp) (op : Op) (h : site ops e i = some (d, op)) (hact : act i = true) (hK : Keep S w1 w) (hS : b < w1.heap.size → S b) (hb : b < w.heap.size) (hx : ∀ o : Oper, o.op = op → (execOp (ev e) o).run P w = .ok (.value v) (turned w b (.cells L.toArray T)))
    (k : ∀ w', Blk w' b L T → Keep (only b) w w' → w'.heap.size = w.heap.size → Keep S w1 w' → GI P r n ds ops Q act S w1 l (putE n d v e) w') : GI P r n ds ops Q act S w1 (i :: l) e w := by
  have hk : Keep (only b) w (turned w b (.cells L.toArray T)) := turned_keep (by intro c t f hc; cases hc; rfl)
  have hK' : Keep S w1 (turned w b (.cells L.toArray T)) := hK.fresh hk (fun i hi hS' => by rw [show i = b from hS'] at hi ⊢; exact hS hi)
  exact GI_value d op h hact hx hK' (k _ (turned_blk _ _ hb) hk (turned_size _ _ _) hK')

theorem len_run {x : Value} {sz m : Nat} {cells : List Value} (h : SlR w sz x m cells) : (Builtin.lenOf x).run P w = .ok m w := by
  rcases h with ⟨rfl, rfl, rfl⟩ | ⟨b, o, cap, L, T, rfl, _, _, _, _⟩ <;> rfl
theorem copy_run {t E T at2 : TypeId} {sz by_ b o dl dc k m : Nat} {L cells : List Value} {x y : Operand} (hs : slk P t = some (E, sz, by_)) (hx : ev e x = .slice (some ⟨b, o, none⟩) dl dc) (hb : Blk w b L T) (hy : SlR w sz (ev e y) k cells) (hm : m = min k dl) (hl : o + m * sz ≤ L.length) (h1 : ∀ u ∈ cells.take (m * sz), u.oneCell' = true) (op : Oper)
    (ho : op.op = .call { callee := .builtin .copy, args := #[x, y], argTypes := #[t, at2] }) : (execOp (ev e) op).run P w = .ok (.value (.int .i64 (m : Int))) (turned w b (.cells (over L o (cells.take (m * sz))).toArray T)) := by
  obtain ⟨hu, inf, hi, hsi, _⟩ := slk_spec hs
  refine builtin_run _ (fun _ _ _ _ => rfl) op ho ?_
  have hlen := hy.length
  have hmk : m ≤ k := by omega
  have hle : m * sz ≤ k * sz := Nat.mul_le_mul_right _ hmk
  have hst := run_storeCells (P := P) (cells.take (m * sz)) o 0 L w hb (by simp; omega) h1
  rw [Nat.add_zero] at hst
  have hmm : Nat.min k dl = m := hm.symm
  simp only [List.map_toArray, List.map_cons, List.map_nil, hx]
  unfold Builtin.copy_
  simp only [List.getElem?_toArray, List.getElem?_cons_zero, List.getElem?_cons_succ, Sem.run_bind, run_und hu, Result.andThen, len_run hy, run_size hi, hsi, hmm, first_run hy hmk, hst]
  rfl
theorem clear_run {t E T : TypeId} {sz by_ b o k cap : Nat} {L : List Value} {zv : Value} {x : Operand} (hs : slk P t = some (E, sz, by_)) (hz : zeroV P E = some zv) (hzl : zv.cells.size = sz) (hz1 : ∀ u ∈ zv.cells, u.oneCell' = true) (hx : ev e x = .slice (some ⟨b, o, none⟩) k cap) (hb : Blk w b L T) (hk : 0 < k) (hl : o + k * sz ≤ L.length) (zs : List Value) (hzs : zs = (Builtin.zeroCells zv.cells k).toList) (op : Oper)
    (ho : op.op = .call { callee := .builtin .clear, args := #[x], argTypes := #[t] }) : (execOp (ev e) op).run P w = .ok (.value (.tuple #[])) (turned w b (.cells (over L o zs).toArray T)) := by
  obtain ⟨hu, inf, hi, hsi, _⟩ := slk_spec hs
  refine builtin_run _ (fun _ _ _ _ => rfl) op ho ?_
  obtain ⟨k', rfl⟩ : ∃ k', k = k' + 1 := ⟨k - 1, by omega⟩
  have hzl2 : zs.length = (k' + 1) * sz := by rw [hzs]; simp [Builtin.zeroCells, hzl]
  have hst := run_storeCells (P := P) zs o 0 L w hb (by omega) (by
    intro u hu
    rw [hzs] at hu
    simp only [Builtin.zeroCells, Array.toList_map, List.mem_map] at hu
    obtain ⟨j, hj, rfl⟩ := hu
    have hpos : 0 < zv.cells.size := by
      rcases Nat.eq_zero_or_pos zv.cells.size with h0 | h0
      · rw [h0] at hj; simp at hj
      · exact h0
    have hlt : j % zv.cells.size < zv.cells.size := Nat.mod_lt _ hpos
    rw [getElem!_pos zv.cells _ hlt]
    exact hz1 _ (Array.getElem_mem hlt))
  rw [Nat.add_zero] at hst
  simp only [List.map_toArray, List.map_cons, List.map_nil, hx]
  unfold Builtin.clear_
  simp only [List.getElem?_toArray, List.getElem?_cons_zero, Sem.run_bind, run_und hu, Result.andThen, zeroV_run hz, ← hzs, hst]
  rfl
theorem appmake_run {t E at2 : TypeId} {sz by_ m k : Nat} {kd : IntKind} {zv s : Value} {old : List Value} {w : World} {base : Option Addr} {cap : Nat} (hs : slk P t = some (E, sz, by_)) (hz : zeroV P E = some zv) (hzl : zv.cells.size = sz) (hsv : s = .slice base m cap) (h : SlR w sz s m old)
    (hcap : cap < m + k) (hb : (m + k) * by_ ≤ 1099511627776) (hby : by_ ≤ 1048576) (hmk : m + k ≤ 1099511627776) (h2 : P.underlying at2 = some (.int kd)) (ty : TypeId) :
    ∃ b' nc zs, (Builtin.append_ #[t, at2] ty #[s, .int .i64 (k : Int)]).run P w = .ok (.slice (some ⟨b', 0, none⟩) (m + k) nc) (laid w.drew (.cells (old ++ zs).toArray E)) ∧ b' = w.heap.size ∧ m + k ≤ nc ∧ zs.length = (nc - m) * sz := by
  obtain ⟨hu, inf, hi, hsi, hbs⟩ := slk_spec hs
  have hold : old.length = m * sz := h.length
  have hfs : ∀ w', SlR w' sz s m old → (Builtin.firstCells sz m s).run P w' = .ok old.toArray w' := by
    intro w' hs'
    rw [first_run hs' (Nat.le_refl _), List.take_of_length_le (by omega)]
  have hnc := nextcap_le hcap
  have hroom : ¬ (m + k ≤ cap) := by omega
  have hbig : ¬ (Builtin.nextslicecap (m + k) cap * inf.bytes > 2 ^ 48) := by
    rw [hbs]
    have : Builtin.nextslicecap (m + k) cap * by_ ≤ (4 * (m + k) + 4096) * by_ := Nat.mul_le_mul_right _ hnc
    have e : (4 * (m + k) + 4096) * by_ = 4 * ((m + k) * by_) + 4096 * by_ := by rw [Nat.add_mul, Nat.mul_assoc]
    omega
  have hq : (Question.appendCap (m + k) cap E).forced = false := rfl
  obtain ⟨nc, hnc2⟩ : ∃ nc, nc = Question.cut (.appendCap (m + k) cap E) (w.tape w.drawn (.appendCap (m + k) cap E)) := ⟨_, rfl⟩
  have hnc1 : m + k ≤ nc := by rw [hnc2]; simp only [Question.cut]; omega
  have hsd : SlR w.drew sz s m old := h
  have hwr : IntKind.i64.wrap (k : Int) = (k : Int) := by
    unfold IntKind.wrap IntKind.bits IntKind.signed
    simp only
    have : (k : Int) % 2 ^ 64 = k := Int.emod_eq_of_lt (by omega) (by omega)
    rw [this]
    simp only [Bool.true_and, decide_eq_true_eq]
    rw [if_neg (by omega)]
  have hkneg : ¬ ((k : Int) < 0) := by omega
  have hkb : ¬ ((k : Int) * (inf.bytes : Int) > 2 ^ 48) := by
    rw [hbs]
    have h3 : k * by_ ≤ (m + k) * by_ := Nat.mul_le_mul_right _ (by omega)
    have h4 : ((k : Int) * (by_ : Int)) = ((k * by_ : Nat) : Int) := by simp
    rw [h4]
    omega
  refine ⟨w.heap.size, nc, (if k * sz = 0 then #[] else Builtin.zeroCells zv.cells k).toList ++ (Builtin.zeroCells zv.cells (nc - (m + k))).toList, ?_, rfl, hnc1, ?_⟩
  · subst hsv
    unfold Builtin.append_
    simp only [Sem.run_bind, run_und hu, run_und h2, run_size hi, Result.andThen, hsi, List.getElem?_toArray, List.getElem?_cons_zero, List.getElem?_cons_succ, Sem.run_pure, if_true]
    have hmx : ¬ (((m + k : Nat) : Int) > IntKind.i64.max ∧ (True ∨ inf.bytes = 0)) := by
      have : IntKind.i64.max = 9223372036854775807 := by decide
      rw [this]
      omega
    have hkb' : ¬ ((k : Int) * (inf.bytes : Int) > 2 ^ 48) := hkb
    simp only [asInt, asIntOf, Sem.run_bind, Sem.run_pure, Result.andThen, hwr, hkneg, if_false, typeInfo_run hi, hkb', Int.toNat_natCast, hroom, hbig, hmx, askRoom_run, zeroV_run hz]
    simp only [choose, Sem.run, hq, Bool.false_eq_true, if_false, ← hnc2]
    have hfd : (Builtin.firstCells sz m (.slice base m cap)).run P { w with drawn := w.drawn + 1 } = .ok old.toArray { w with drawn := w.drawn + 1 } := hfs _ hsd
    simp only [hfd, Bool.not_true, Bool.false_eq_true, if_false]
    have hnew : (if k * sz = 0 then pure #[] else do
          let z ← zeroValue E
          pure (Builtin.zeroCells z.cells k) : Sem (Array Value)).run P { w with drawn := w.drawn + 1 } = .ok (if k * sz = 0 then #[] else Builtin.zeroCells zv.cells k) { w with drawn := w.drawn + 1 } := by
      split
      · rfl
      · simp only [Sem.run_bind, zeroV_run hz, Result.andThen, Sem.run_pure]
    rw [hnew]
    simp only [newRow, newObj]
    have e1 : (old ++ ((if k * sz = 0 then (#[] : Array Value) else Builtin.zeroCells zv.cells k).toList ++ (Builtin.zeroCells zv.cells (nc - (m + k))).toList)).toArray = old.toArray ++ (if k * sz = 0 then #[] else Builtin.zeroCells zv.cells k) ++ Builtin.zeroCells zv.cells (nc - (m + k)) := by
      apply Array.toList_inj.1
      simp
    rw [e1]
    rfl
  · have e1 : (if k * sz = 0 then (#[] : Array Value) else Builtin.zeroCells zv.cells k).toList.length = k * sz := by
      split
      · rename_i h0; simp [h0]
      · simp [Builtin.zeroCells, hzl]
    rw [List.length_append, e1]
    have e2 : (Builtin.zeroCells zv.cells (nc - (m + k))).toList.length = (nc - (m + k)) * sz := by simp [Builtin.zeroCells, hzl]
    rw [e2, ← Nat.add_mul]
    congr 1
    omega
end

/-! ### Integers -/
theorem wrap64_id {n : Int} (h0 : -9223372036854775808 ≤ n) (h1 : n ≤ 9223372036854775807) : IntKind.i64.wrap n = n := by
  unfold IntKind.wrap IntKind.bits IntKind.signed
  simp only [Bool.true_and, decide_eq_true_eq]
  have e1 : (2 : Int) ^ 64 = 18446744073709551616 := by decide
  have e2 : (2 : Int) ^ (64 - 1) = 9223372036854775808 := by decide
  rw [e1, e2]
  split <;> omega
theorem V_not {P : Program} {r : Option Nat} {n : Nat} {ds : List Deferred} {Q : Post} {e : Env} {w : World} {x y : Code} {t : Nat} (p : Prop) [Decidable p] (h : look e t = some (.bool (!decide p))) (ht : ¬ p → V P r n ds x Q e w) (hf : p → V P r n ds y Q e w) : V P r n ds (.cond (.tmp t) x y) Q e w :=
  V_ifb (!decide p) h (fun hb => ht (by simpa using hb)) (fun hb => hf (by simpa using hb))
end Go.Al
