/-
  Put together out of 16 texts: What a voting holds, and where. Walks of package voting: a poll, a record. Walks of package voting: Open, Close, Tally. Walks of package voting: an account's votes in a track. Walks of package voting: prior locks; votes that won. Walks of package voting: Vote. Walks of 
-/
import Derived.Test.YtcaiibbhnalffaaGreatActDoesB2
open Go.IntKind (i64)
set_option maxRecDepth 10000
namespace Go.Al
open Go Go.RowKit Go.Proofs
variable {F M : Nat → Prop} {b i q v : Nat} {w w' : World}
theorem Blk.ne {a : Nat} {L L' : List Value} {t t' : TypeId} (h : Blk w a L t) (h' : Blk w b L' t') (ht : t ≠ t') : a ≠ b := fun e => ht (by subst e; exact (h.inj h').2)
structure PollS where
  track : Int
  t : Tly
  state : Int
  stop : Int
def PollS.cells (p : PollS) : List Value := [nt p.track, nt p.t.a, nt p.t.n, nt p.t.s, nt p.state, nt p.stop]
structure DelS where
  to : Int
  level : Int
  n : Int
def DelS.cells (d : DelS) : List Value := [nt d.to, nt d.level, nt d.n]
structure RecS where
  d : Option DelS
  got : Wgt
  till : Int
  n : Int
def RecS.zero : RecS := ⟨none, ⟨0, 0⟩, 0, 0⟩
def RecS.cells (dp : Option Addr) (r : RecS) : List Value := [.pointer dp, nt r.got.v, nt r.got.c, nt r.till, nt r.n]
structure VS where
  ps : List (Option PollS)
  cs : List GV.Ci
  rc : Int → Int → RecS
structure VP where
  gv : Nat
  gr : Nat
  pp : List (Option Addr)
  rs : List GR.Ci
def okD (r : RecS) : Prop := ∀ d, r.d = some d → (0 ≤ d.to ∧ d.to < 10) ∧ (0 ≤ d.level ∧ d.level ≤ 6) ∧ (0 ≤ d.n ∧ d.n ≤ 1073741824)
structure VS.Inv (s : VS) : Prop where
  len : s.ps.length = 12
  votes : ∀ c ∈ s.cs, (0 ≤ c.a ∧ c.a < 10) ∧ (0 ≤ c.b ∧ c.b < 12) ∧ okV c.v ∧ ∃ p, s.ps[c.b.toNat]? = some (some p)
  dels : ∀ a t, okD (s.rc a t)
def VS.setP (s : VS) (i : Nat) (p : PollS) : VS := { s with ps := s.ps.set i (some p) }
def RecB (M : Nat → Prop) (w : World) (q : Nat) (r : RecS) : Prop := ∃ dp, Blk w q (RecS.cells dp r) 232 ∧ (r.d = none → dp = none) ∧ (∀ d, r.d = some d → ∃ b, dp = some ⟨b, 0, none⟩ ∧ Blk w b d.cells 254 ∧ M b)
structure VotX (F1 F2 M : Nat → Prop) (w : World) (v : Nat) (P : VP) (s : VS) : Prop where
  inv : s.Inv
  gv : GV.Grd F1 w P.gv s.cs
  gr : GR.Grd F2 w P.gr P.rs
  mv : M v
  lt : ∀ q, M q → q < w.heap.size
  d12 : ∀ q, F1 q → ¬ F2 q
  d1 : ∀ q, F1 q → ¬ M q
  d2 : ∀ q, F2 q → ¬ M q
  len : P.pp.length = 12
  blk : Blk w v (P.pp.map Value.pointer ++ [.pointer (some ⟨P.gv, 0, none⟩), .pointer (some ⟨P.gr, 0, none⟩)]) 130
  polls : ∀ i : Nat, i < 12 → (P.pp[i]? = some none ∧ s.ps[i]? = some none) ∨ ∃ b p, P.pp[i]? = some (some ⟨b, 0, none⟩) ∧ s.ps[i]? = some (some p) ∧ Blk w b p.cells 167 ∧ M b
  pinj : ∀ (i j b : Nat), P.pp[i]? = some (some ⟨b, 0, none⟩) → P.pp[j]? = some (some ⟨b, 0, none⟩) → i = j
  keys : ∀ c ∈ P.rs, (0 ≤ c.a ∧ c.a < 10) ∧ (0 ≤ c.b ∧ c.b < 4)
  recs : ∀ a t, (GR.getC a t P.rs = none ∧ s.rc a t = RecS.zero) ∨ ∃ q, GR.getC a t P.rs = some (some ⟨q, 0, none⟩) ∧ RecB M w q (s.rc a t) ∧ M q
  rinj : ∀ (a t a' t' : Int) (q : Nat), GR.getC a t P.rs = some (some ⟨q, 0, none⟩) → GR.getC a' t' P.rs = some (some ⟨q, 0, none⟩) → a = a' ∧ t = t'
def Vot (F : Nat → Prop) (w : World) (v : Nat) (P : VP) (s : VS) : Prop := ∃ F1 F2 M, VotX F1 F2 M w v P s ∧ (∀ q, F1 q → F q) ∧ (∀ q, F2 q → F q) ∧ (∀ q, M q → F q) ∧ (∀ q, F q → q < w.heap.size)
theorem Vot.lt {P : VP} {s : VS} (h : Vot F w v P s) : ∀ q, F q → q < w.heap.size := by
  obtain ⟨_, _, _, _, _, _, _, h⟩ := h; exact h
theorem Vot.at_ {P : VP} {s : VS} (h : Vot F w v P s) : F v := by
  obtain ⟨_, _, _, h, _, _, h3, _⟩ := h; exact h3 _ h.mv
theorem Vot.inv {P : VP} {s : VS} (h : Vot F w v P s) : s.Inv := by
  obtain ⟨_, _, _, h, _⟩ := h; exact h.inv
theorem RecB.keep {S : Nat → Prop} {r : RecS} (h : RecB M w q r) (k : Keep S w w') (h1 : ¬ S q) (h2 : ∀ b, M b → ¬ S b) : RecB M w' q r := by
  obtain ⟨dp, hb, hn, hs⟩ := h
  refine ⟨dp, hb.keep k h1, hn, fun d hd => ?_⟩
  obtain ⟨b, e, hb', hM⟩ := hs d hd
  exact ⟨b, e, hb'.keep k (h2 b hM), hM⟩
theorem RecB.quiet {N : Nat} {r : RecS} (h : RecB M w q r) (k : Keep (lb N w) w w') : RecB M w' q r := by
  obtain ⟨dp, hb, hn, hs⟩ := h
  refine ⟨dp, hb.quiet k, hn, fun d hd => ?_⟩
  obtain ⟨b, e, hb', hM⟩ := hs d hd
  exact ⟨b, e, hb'.quiet k, hM⟩
theorem RecB.mono {M' : Nat → Prop} {r : RecS} (h : RecB M w q r) (hM : ∀ b, M b → M' b) : RecB M' w q r := by
  obtain ⟨dp, hb, hn, hs⟩ := h
  refine ⟨dp, hb, hn, fun d hd => ?_⟩
  obtain ⟨b, e, hb', h⟩ := hs d hd
  exact ⟨b, e, hb', hM b h⟩
theorem RecB.keep1 {r : RecS} (h : RecB M w q r) (k : Keep (only b) w w') {L : List Value} {t : TypeId} (hb : Blk w b L t) (hq : q ≠ b) (ht : t ≠ 254) : RecB M w' q r := by
  obtain ⟨dp, hb', hn, hs⟩ := h
  refine ⟨dp, hb'.keep k hq, hn, fun d hd => ?_⟩
  obtain ⟨c, e, hc, hM⟩ := hs d hd
  exact ⟨c, e, hc.keep k (Blk.ne hc hb (fun e => ht e.symm)), hM⟩
theorem VotX.keepM {F1 F2 M F1' F2' M' : Nat → Prop} {P : VP} {s : VS} (h : VotX F1 F2 M w v P s) (S : Nat → Prop) (k : Keep S w w') (hS : ∀ q, M q → ¬ S q) {cs : List GV.Ci} (hi : ({ s with cs := cs } : VS).Inv) (hM : ∀ q, M q → M' q) (hlt : ∀ q, M' q → q < w'.heap.size)
    (h1 : GV.Grd F1' w' P.gv cs) (h2 : GR.Grd F2' w' P.gr P.rs) (d12 : ∀ q, F1' q → ¬ F2' q) (d1 : ∀ q, F1' q → ¬ M' q) (d2 : ∀ q, F2' q → ¬ M' q) : VotX F1' F2' M' w' v P { s with cs := cs } where
  inv := hi
  gv := h1
  gr := h2
  mv := hM _ h.mv
  lt := hlt
  d12 := d12
  d1 := d1
  d2 := d2
  len := h.len
  blk := h.blk.keep k (hS _ h.mv)
  polls := fun i hi => by
    rcases h.polls i hi with h | ⟨b, p, e1, e2, hb, hm⟩
    · exact .inl h
    · exact .inr ⟨b, p, e1, e2, hb.keep k (hS _ hm), hM _ hm⟩
  pinj := h.pinj
  keys := h.keys
  recs := fun a t => by
    rcases h.recs a t with h | ⟨q, e, hr, hm⟩
    · exact .inl h
    · exact .inr ⟨q, e, (hr.keep k (hS _ hm) hS).mono hM, hM _ hm⟩
  rinj := h.rinj
theorem Vot.keep {S : Nat → Prop} {P : VP} {s : VS} (h : Vot F w v P s) (k : Keep S w w') (hS : ∀ q, F q → ¬ S q) : Vot F w' v P s := by
  obtain ⟨F1, F2, M, h, h1, h2, h3, h4⟩ := h
  exact ⟨F1, F2, M, h.keepM S k (fun q hq => hS q (h3 q hq)) h.inv (fun _ h => h) (fun q hq => Nat.lt_of_lt_of_le (h.lt q hq) k.size) (h.gv.keep k (fun q hq => hS q (h1 q hq))) (h.gr.keep k (fun q hq => hS q (h2 q hq))) h.d12 h.d1 h.d2, h1, h2, h3, fun q hq => Nat.lt_of_lt_of_le (h4 q hq) k.size⟩
theorem Vot.quiet {N : Nat} {P : VP} {s : VS} (h : Vot F w v P s) (k : Keep (lb N w) w w') : Vot F w' v P s := by
  obtain ⟨F1, F2, M, h, h1, h2, h3, h4⟩ := h
  refine ⟨F1, F2, M, ⟨h.inv, h.gv.quiet k, h.gr.quiet k, h.mv, fun q hq => Nat.lt_of_lt_of_le (h.lt q hq) k.size, h.d12, h.d1, h.d2, h.len, h.blk.quiet k, fun i hi => ?_, h.pinj, h.keys, fun a t => ?_, h.rinj⟩, h1, h2, h3, fun q hq => Nat.lt_of_lt_of_le (h4 q hq) k.size⟩
  · rcases h.polls i hi with h | ⟨b, p, e1, e2, hb, hm⟩
    · exact .inl h
    · exact .inr ⟨b, p, e1, e2, hb.quiet k, hm⟩
  · rcases h.recs a t with h | ⟨q, e, hr, hm⟩
    · exact .inl h
    · exact .inr ⟨q, e, hr.quiet k, hm⟩
theorem Vot.poll {P : VP} {s : VS} (h : Vot F w v P s) (e : P.pp[i]? = some (some ⟨b, 0, none⟩)) : ∃ p, s.ps[i]? = some (some p) ∧ Blk w b p.cells 167 ∧ F b := by
  obtain ⟨F1, F2, M, h, h1, h2, h3, h4⟩ := h
  have hi : i < 12 := by rw [← h.len]; exact (List.getElem?_eq_some_iff.1 e).1
  rcases h.polls i hi with ⟨e1, _⟩ | ⟨b', p, e1, e2, hb, hm⟩
  · rw [e] at e1; cases e1
  · rw [e] at e1; cases e1; exact ⟨p, e2, hb, h3 _ hm⟩
theorem Vot.pollB {P : VP} {s : VS} (h : Vot F w v P s) {p : PollS} (e : P.pp[i]? = some (some ⟨b, 0, none⟩)) (e2 : s.ps[i]? = some (some p)) : Blk w b p.cells 167 ∧ F b := by
  obtain ⟨p', h1, h2⟩ := h.poll e
  rw [e2] at h1; cases h1; exact h2
theorem Vot.vblk {P : VP} {s : VS} (h : Vot F w v P s) : P.pp.length = 12 ∧ Blk w v (P.pp.map Value.pointer ++ [.pointer (some ⟨P.gv, 0, none⟩), .pointer (some ⟨P.gr, 0, none⟩)]) 130 := by
  obtain ⟨_, _, _, h, _⟩ := h; exact ⟨h.len, h.blk⟩
theorem VotX.setPoll {F1 F2 : Nat → Prop} {P : VP} {s : VS} (h : VotX F1 F2 M w v P s) {p p' : PollS} (e : P.pp[i]? = some (some ⟨b, 0, none⟩)) (e2 : s.ps[i]? = some (some p)) (k : Keep (only b) w w') (hb' : Blk w' b p'.cells 167) : VotX F1 F2 M w' v P (s.setP i p') ∧ M b := by
  have hi : i < 12 := by rw [← h.len]; exact (List.getElem?_eq_some_iff.1 e).1
  have hMb : M b ∧ Blk w b p.cells 167 := by
    rcases h.polls i hi with ⟨e1, _⟩ | ⟨b', p, e1, e3, hb, hm⟩
    · rw [e] at e1; cases e1
    · rw [e] at e1; cases e1; rw [e2] at e3; cases e3; exact ⟨hm, hb⟩
  obtain ⟨hM, hB⟩ := hMb
  have hil : i < s.ps.length := (List.getElem?_eq_some_iff.1 e2).1
  refine ⟨⟨⟨by show (s.ps.set i (some p')).length = 12; rw [List.length_set]; exact h.inv.len, fun c hc => ?_, h.inv.dels⟩, h.gv.keep k (fun q hq hs => h.d1 q hq (by rw [show q = b from hs]; exact hM)), h.gr.keep k (fun q hq hs => h.d2 q hq (by rw [show q = b from hs]; exact hM)), h.mv, fun q hq => Nat.lt_of_lt_of_le (h.lt q hq) k.size, h.d12, h.d1, h.d2, h.len, h.blk.keep k (Blk.ne h.blk hB (by decide)), fun j hj => ?_, h.pinj, h.keys, fun a t => ?_, h.rinj⟩, hM⟩
  · obtain ⟨g1, g2, g3, p0, g4⟩ := h.inv.votes c hc
    refine ⟨g1, g2, g3, ?_⟩
    show ∃ p, (s.ps.set i (some p'))[c.b.toNat]? = some (some p)
    by_cases he : i = c.b.toNat
    · exact ⟨p', by rw [← he, List.getElem?_set_self hil]⟩
    · exact ⟨p0, by rw [List.getElem?_set_ne he]; exact g4⟩
  · show (P.pp[j]? = some none ∧ (s.ps.set i (some p'))[j]? = some none) ∨ ∃ b p, P.pp[j]? = some (some ⟨b, 0, none⟩) ∧ (s.ps.set i (some p'))[j]? = some (some p) ∧ Blk w' b p.cells 167 ∧ M b
    by_cases he : i = j
    · subst he
      exact .inr ⟨b, p', e, by rw [List.getElem?_set_self hil], hb', hM⟩
    · rw [List.getElem?_set_ne he]
      rcases h.polls j hj with hh | ⟨b2, p2, f1, f2, hb2, hm2⟩
      · exact .inl hh
      · exact .inr ⟨b2, p2, f1, f2, hb2.keep k (fun hs => he (h.pinj i j b e (by rw [f1, show b2 = b from hs]))), hm2⟩
  · rcases h.recs a t with hh | ⟨q, e1, hr, hm⟩
    · exact .inl hh
    · refine .inr ⟨q, e1, hr.keep1 k hB ?_ (by decide), hm⟩
      obtain ⟨_, hq, _⟩ := hr
      exact Blk.ne hq hB (by decide)
theorem Vot.setPoll {P : VP} {s : VS} (h : Vot F w v P s) {p p' : PollS} (e : P.pp[i]? = some (some ⟨b, 0, none⟩)) (e2 : s.ps[i]? = some (some p)) (k : Keep (only b) w w') (hb' : Blk w' b p'.cells 167) : Vot F w' v P (s.setP i p') := by
  obtain ⟨F1, F2, M, h, h1, h2, h3, h4⟩ := h
  exact ⟨F1, F2, M, (h.setPoll e e2 k hb').1, h1, h2, h3, fun q hq => Nat.lt_of_lt_of_le (h4 q hq) k.size⟩
def pollAt (s : VS) (ref : Int) : Option PollS := if 0 ≤ ref ∧ ref < 12 then (s.ps[ref.toNat]?).join else none
theorem Vot.pollcase {P : VP} {s : VS} (h : Vot F w v P s) (ref : Int) : (pollAt s ref = none ∧ (¬ (0 ≤ ref ∧ ref < 12) ∨ ∃ i : Nat, ref = (i : Int) ∧ i < 12 ∧ P.pp[i]? = some none)) ∨ ∃ (i b : Nat) (p : PollS), ref = (i : Int) ∧ i < 12 ∧ P.pp[i]? = some (some ⟨b, 0, none⟩) ∧ s.ps[i]? = some (some p) ∧ pollAt s ref = some p := by
  obtain ⟨F1, F2, M, h, _⟩ := h
  by_cases hr : 0 ≤ ref ∧ ref < 12
  · obtain ⟨i, rfl⟩ : ∃ i : Nat, ref = i := ⟨ref.toNat, by omega⟩
    rcases h.polls i (by omega) with ⟨e1, e2⟩ | ⟨b, p, e1, e2, _⟩
    · exact .inl ⟨by unfold pollAt; rw [if_pos hr, Int.toNat_natCast, e2]; rfl, .inr ⟨i, rfl, by omega, e1⟩⟩
    · exact .inr ⟨i, b, p, rfl, by omega, e1, e2, by unfold pollAt; rw [if_pos hr, Int.toNat_natCast, e2]; rfl⟩
  · exact .inl ⟨by unfold pollAt; rw [if_neg hr], .inl hr⟩
theorem over_pp {pp : List (Option Addr)} {tl : List Value} {x : Option Addr} (hi : i < pp.length) : over (pp.map Value.pointer ++ tl) (0 + i * 1) [.pointer x] = (pp.set i x).map Value.pointer ++ tl := by
  have e : 0 + i * 1 = ([] : List Value).length + i := by simp
  have h1 := over_mid (X := []) (Y := pp.map Value.pointer) (Z := tl) (k := i) (v := .pointer x) (by simpa using hi)
  rw [e]
  simp only [List.nil_append] at h1 ⊢
  rw [h1]
  congr 1
  unfold over
  rw [List.map_set, List.set_eq_take_append_cons_drop, if_pos (by simpa using hi)]
  simp
theorem Vot.addPoll {F : Nat → Prop} {w w' : World} {v : Nat} {P : VP} {s : VS} (h : Vot F w v P s) {i b : Nat} {p : PollS} (hi : i < 12) (_e : P.pp[i]? = some none) (k : Keep (only v) w w') (hv : Blk w' v ((P.pp.set i (some ⟨b, 0, none⟩)).map Value.pointer ++ [.pointer (some ⟨P.gv, 0, none⟩), .pointer (some ⟨P.gr, 0, none⟩)]) 130) (hb : Blk w' b p.cells 167) (hge : w.heap.size ≤ b) :
    ∃ F', Vot F' w' v { P with pp := P.pp.set i (some ⟨b, 0, none⟩) } (s.setP i p) ∧ ∀ q, F' q → F q ∨ w.heap.size ≤ q := by
  obtain ⟨F1, F2, M, h, h1, h2, h3, h4⟩ := h
  have hsz := k.size
  have hbv := hb.lt
  have hil : i < s.ps.length := by rw [h.inv.len]; exact hi
  have hpl : i < P.pp.length := by rw [h.len]; exact hi
  have kS : ∀ x, x < w.heap.size → x ≠ v → ¬ only v x := fun x _ hx hs => hx hs
  refine ⟨fun x => F x ∨ x = b, ⟨F1, F2, fun x => M x ∨ x = b, ⟨⟨by show (s.ps.set i (some p)).length = 12; rw [List.length_set]; exact h.inv.len, fun c hc => ?_, h.inv.dels⟩, h.gv.keep k (fun x hx hs => h.d1 x hx (by rw [show x = v from hs]; exact h.mv)), h.gr.keep k (fun x hx hs => h.d2 x hx (by rw [show x = v from hs]; exact h.mv)), .inl h.mv, ?_, h.d12, ?_, ?_, by show (P.pp.set i _).length = 12; rw [List.length_set]; exact h.len, hv, fun j hj => ?_, ?_, h.keys, fun a t => ?_, h.rinj⟩, fun x hx => .inl (h1 x hx), fun x hx => .inl (h2 x hx), fun x hx => hx.imp (h3 x) id, ?_⟩, fun q hq => hq.imp id (fun e => by rw [e]; exact hge)⟩
  · obtain ⟨g1, g2, g3, p0, g4⟩ := h.inv.votes c hc
    refine ⟨g1, g2, g3, ?_⟩
    show ∃ p', (s.ps.set i (some p))[c.b.toNat]? = some (some p')
    by_cases he : i = c.b.toNat
    · exact ⟨p, by rw [← he, List.getElem?_set_self hil]⟩
    · exact ⟨p0, by rw [List.getElem?_set_ne he]; exact g4⟩
  · rintro x (hx | rfl)
    · exact Nat.lt_of_lt_of_le (h.lt x hx) hsz
    · exact hbv
  · rintro x hx (hm | rfl)
    · exact h.d1 x hx hm
    · have := h.gv.lt _ hx; omega
  · rintro x hx (hm | rfl)
    · exact h.d2 x hx hm
    · have := h.gr.lt _ hx; omega
  · show ((P.pp.set i (some ⟨b, 0, none⟩))[j]? = some none ∧ (s.ps.set i (some p))[j]? = some none) ∨ ∃ b' p', (P.pp.set i (some ⟨b, 0, none⟩))[j]? = some (some ⟨b', 0, none⟩) ∧ (s.ps.set i (some p))[j]? = some (some p') ∧ Blk w' b' p'.cells 167 ∧ (M b' ∨ b' = b)
    by_cases he : i = j
    · subst he
      exact .inr ⟨b, p, by rw [List.getElem?_set_self hpl], by rw [List.getElem?_set_self hil], hb, .inr rfl⟩
    · rw [List.getElem?_set_ne he, List.getElem?_set_ne he]
      rcases h.polls j hj with hh | ⟨b2, p2, f1, f2, hb2, hm2⟩
      · exact .inl hh
      · exact .inr ⟨b2, p2, f1, f2, hb2.keep k (Blk.ne hb2 h.blk (by decide)), .inl hm2⟩
  · show ∀ (j j' c : Nat),(P.pp.set i (some ⟨b, 0, none⟩))[j]? = some (some ⟨c, 0, none⟩) → (P.pp.set i (some ⟨b, 0, none⟩))[j']? = some (some ⟨c, 0, none⟩) → j = j'
    have hold : ∀ (j c : Nat), P.pp[j]? = some (some ⟨c, 0, none⟩) → c < w.heap.size := by
      intro j c hjc
      have hj : j < 12 := by rw [← h.len]; exact (List.getElem?_eq_some_iff.1 hjc).1
      rcases h.polls j hj with ⟨f1, _⟩ | ⟨b2, p2, f1, f2, hb2, hm2⟩
      · rw [hjc] at f1; cases f1
      · rw [hjc] at f1; cases f1; exact hb2.lt
    intro j j' c hj hj'
    by_cases e1 : i = j <;> by_cases e2 : i = j'
    · exact e1.symm.trans e2
    · subst e1
      rw [List.getElem?_set_self hpl] at hj; cases hj
      rw [List.getElem?_set_ne e2] at hj'
      have := hold _ _ hj'; omega
    · subst e2
      rw [List.getElem?_set_self hpl] at hj'; cases hj'
      rw [List.getElem?_set_ne e1] at hj
      have := hold _ _ hj; omega
    · rw [List.getElem?_set_ne e1] at hj
      rw [List.getElem?_set_ne e2] at hj'
      exact h.pinj _ _ _ hj hj'
  · rcases h.recs a t with hh | ⟨q, e1, hr, hm⟩
    · exact .inl hh
    · refine .inr ⟨q, e1, (hr.keep1 k h.blk ?_ (by decide)).mono (fun _ h => .inl h), .inl hm⟩
      obtain ⟨_, hq, _⟩ := hr
      exact Blk.ne hq h.blk (by decide)
  · rintro x (hx | rfl)
    · exact Nat.lt_of_lt_of_le (h4 x hx) hsz
    · exact hbv
end Go.Al
namespace Go.Al
open Go Go.RowKit Go.Proofs
theorem vIn_spec (n lo hi : Int) (w : World) : Calls Tryz.prog 76 #[nt n, nt lo, nt hi] w fun e w' => e = .returned (.bool (decide (lo ≤ n ∧ n ≤ hi))) ∧ w' = w := by
 refine eV ?_
 refine Vr <| On 1 [0, 1, 2] <| Oer <| On 4 [0, 2, 10] ?_
 by_cases hg1 : n ≥ lo
 ·
  exact Dt 10 hg1 <| Oen [6] <| Rr (.bool (decide (n ≤ hi))) ⟨by congr 2; simp only [Bool.decide_and]; by_cases h1 : lo ≤ n <;> simp [h1] <;> omega, rfl⟩
 exact Df 10 hg1 <| Oen [6] <| Rr (.bool false) ⟨by congr 2; simp only [Bool.decide_and]; by_cases h1 : lo ≤ n <;> simp [h1] <;> omega, rfl⟩
theorem isTrk_spec (n : Int) (w : World) : Calls Tryz.prog 78 #[nt n] w fun e w' => e = .returned (.bool (decide (0 ≤ n ∧ n ≤ 3))) ∧ w' = w := by
 refine eV ?_
 exact Vr <| On 1 [0] <| Oer <| On 1 [3] <| Kq (vIn_spec n 0 3 _) <| Oen [2] <| Rr (.bool (decide ((0 : Int) ≤ n ∧ n ≤ 3))) ⟨rfl, rfl⟩
theorem pollfn_at (v gv gr i : Nat) (pp : List (Option Addr)) (x : Option Addr) (w : World) (hv : Blk w v (pp.map Value.pointer ++ [pt gv, pt gr]) 130) (hlen : pp.length = 12) (hi : i < 12) (hx : pp[i]? = some x) : Calls Tryz.prog 75 #[pt v, nt (i : Int)] w (rk_ w (.pointer x)) := by
 have hK0 := Keep.refl none_ w
 refine eV ?_
 refine Vr <| On 1 [0, 1] <| Oe <| V_seq <| Vr <| On 4 [0, 1, 7, 8] <| Kq (vIn_spec (i : Int) 0 11 _) <| Oen [0, 1, 11] <| Vq (u := .bool (!(decide ((0 : Int) ≤ (i : Int) ∧ (i : Int) ≤ 11)))) (v := .bool false) 11 (by rw [decide_eq_true (by omega : (0 : Int) ≤ (i : Int) ∧ (i : Int) ≤ 11)]; rfl) <| Vf <| Vsk <| Vr <| On 4 [13, 15] <| OI_pure (some 16) (.indexAddr 128 (.tmp 15) (.tmp 13)) (by kernel_rfl) (pure_idxArr (b := v) (o := 0) (m := 12) (kd := .i64) (j := i) (E := 127) (sz := 1) (by kernel_rfl) (by kernel_rfl) (by kernel_rfl) (by omega)) <| Lc (0 + i * 1) (.pointer x) hv (by rw [show 0 + i * 1 = i by omega, List.getElem?_append_left (by rw [List.length_map]; omega), List.getElem?_map, hx]; rfl) ?_
 exact Oen [4] <| Rr (.pointer x) ⟨rfl, hK0⟩
theorem pollfn_out (v : Nat) (ref : Int) (w : World) (hr : ¬ (0 ≤ ref ∧ ref < 12)) : Calls Tryz.prog 75 #[pt v, nt ref] w (rk_ w (.pointer none)) := by
 have hK0 := Keep.refl none_ w
 refine eV ?_
 exact Vr <| On 1 [0, 1] <| Oe <| V_seq <| Vr <| On 4 [0, 1, 7, 8] <| Kq (vIn_spec ref 0 11 _) <| Oen [0, 1, 11] <| Vq (u := .bool (!(decide ((0 : Int) ≤ ref ∧ ref ≤ 11)))) (v := .bool true) 11 (by rw [decide_eq_false (by omega : ¬ ((0 : Int) ≤ ref ∧ ref ≤ 11))]; rfl) <| Vo <| Vn [4] <| Rt <| Xr (.pointer none) ⟨rfl, hK0⟩
theorem sorted_len {l : List Int} {N : Nat} (hs : l.Pairwise (· < ·)) (hb : ∀ x ∈ l, 0 ≤ x ∧ x < N) : l.length ≤ N := by
  have key : ∀ (l : List Int) (lo : Int), l.Pairwise (· < ·) → (∀ x ∈ l, lo ≤ x ∧ x < N) → lo ≤ N → (l.length : Int) ≤ N - lo := by
    intro l
    induction l with
    | nil => intro lo _ _ h; simp; omega
    | cons x l ih =>
      intro lo hs hb hlo
      have h1 := hb x (List.mem_cons_self ..)
      have h2 := List.pairwise_cons.1 hs
      have h3 := ih (x + 1) h2.2 (fun y hy => ⟨by have := h2.1 y hy; omega, (hb y (List.mem_cons_of_mem _ hy)).2⟩) (by omega)
      simp only [List.length_cons]; omega
  have := key l 0 hs hb (by omega)
  omega
theorem GV.len120 {cs : List GV.Ci} (hs : GV.Srt cs) (hb : ∀ c ∈ cs, (0 ≤ c.a ∧ c.a < 10) ∧ (0 ≤ c.b ∧ c.b < 12)) : cs.length ≤ 120 := by
  have h1 : (cs.map fun c => c.a * 12 + c.b).length ≤ 120 := sorted_len (by
    rw [List.pairwise_map]
    refine List.Pairwise.imp_of_mem ?_ hs
    intro x y hx hy hxy
    have := hb x hx; have := hb y hy
    rcases hxy with h | h <;> omega) (by
    intro z hz
    obtain ⟨c, hc, rfl⟩ := List.mem_map.1 hz
    have := hb c hc; omega)
  simpa using h1
theorem GR.Grd.ne {F : Nat → Prop} {g : Nat} {cs : List GR.Ci} {w : World} (h : GR.Grd F w g cs) {x : Nat} {L : List Value} {t : TypeId} (hx : Blk w x L t) (ht : t ≠ 164) : x ≠ g := by
  obtain ⟨_, _, _, _, A, cap, h5, _⟩ := h
  exact Blk.ne hx h5.blk ht
end Go.Al
namespace Go.Al
open Go Go.RowKit Go.Proofs
variable {F : Nat → Prop} {s : VS} {v : Nat} {w w' : World}
def openE (s : VS) (ref t : Int) : Int := if ¬ (0 ≤ ref ∧ ref < 12) ∨ ¬ (0 ≤ t ∧ t < 4) then 1 else if (pollAt s ref).isSome then 5 else 0
def openS (s : VS) (ref t : Int) : VS := if openE s ref t = 0 then s.setP ref.toNat ⟨t, Tly.zero, 0, 0⟩ else s
def closeE (s : VS) (ref st : Int) : Int := match pollAt s ref with | none => 4 | some q => if q.state ≠ 0 then 9 else if ¬ (2 ≤ st ∧ st ≤ 6) then 1 else 0
def closeS (s : VS) (ref st e : Int) : VS := match pollAt s ref with | none => s | some q => if closeE s ref st = 0 then s.setP ref.toNat { q with state := st, stop := e } else s
def tallyT (s : VS) (ref : Int) : Tly := match pollAt s ref with | none => Tly.zero | some q => q.t
theorem open_bad (v : Nat) (ref t : Int) (w : World) (hr : ¬ (0 ≤ ref ∧ ref < 12) ∨ ¬ (0 ≤ t ∧ t < 4)) : Calls Tryz.prog 53 #[pt v, nt ref, nt t] w (rk_ w (nt 1)) := by
 have hK0 := Keep.refl none_ w
 refine eV ?_
 refine Vr <| On 1 [0, 1, 2] <| Oe <| V_seq <| V_block <| Vr <| On 4 [0, 1, 2, 10, 11] <| Kq (vIn_spec ref 0 11 _) <| On 8 [0, 1, 2, 15] ?_
 by_cases hg2 : (0 : Int) ≤ ref ∧ ref ≤ 11
 ·
  refine Nt 15 hg2 <| On 9 [0, 1, 2, 15, 16] <| Kq (isTrk_spec t _) <| Ose [(0, pt v),(1, nt ref),(2, nt t),(7, .bool (!(decide (0 ≤ t ∧ t ≤ 3))))] <| V_not (0 ≤ t ∧ t ≤ 3) (by kernel_rfl) (fun hc4 => ?_) (fun hc4 => ?_)
  ·
   exact Vn [6] <| V_ret <| X_ret_block <| X_ret_then <| Xr (nt 1) ⟨rfl, hK0⟩
  exact (by omega : False).elim
 exact Nf 15 hg2 <| Oen [0, 1, 2, 7] <| Vo <| Vn [6] <| V_ret <| X_ret_block <| X_ret_then <| Xr (nt 1) ⟨rfl, hK0⟩
theorem open_has (v gv gr i : Nat) (pp : List (Option Addr)) (b : Nat) (t : Int) (w : World) (hv : Blk w v (pp.map Value.pointer ++ [pt gv, pt gr]) 130) (hlen : pp.length = 12) (hi : i < 12) (hx : pp[i]? = some (some ⟨b, 0, none⟩)) (ht : 0 ≤ t ∧ t < 4) : Calls Tryz.prog 53 #[pt v, nt (i : Int), nt t] w (rk_ w (nt 5)) := by
 have hK0 := Keep.refl none_ w
 refine eV ?_
 refine Vr <| On 1 [0, 1, 2] <| Oe <| V_seq <| V_block <| Vr <| On 4 [0, 1, 2, 10, 11] <| Kq (vIn_spec (i : Int) 0 11 _) <| On 8 [0, 1, 2, 15] <| Oq (u := .bool (!(decide ((0 : Int) ≤ (i : Int) ∧ (i : Int) ≤ 11)))) (v := .bool false) 15 (by rw [decide_eq_true (by omega : (0 : Int) ≤ (i : Int) ∧ (i : Int) ≤ 11)]; rfl) <| On 9 [0, 1, 2, 15, 16] <| Kq (isTrk_spec t _) <| Oen [0, 1, 2, 7] <| Vq (u := .bool (!(decide (0 ≤ t ∧ t ≤ 3)))) (v := .bool false) 7 (by rw [decide_eq_true (by omega : 0 ≤ t ∧ t ≤ 3)]; rfl) <| Vf <| Vr <| On 2 [0, 1, 2, 21, 22] <| Kk (pollfn_at v gv gr i pp (some ⟨b, 0, none⟩) _ hv hlen hi hx) fun w9 hk10 _ => ?_
 replace hK0 := hK0.tn hk10
 exact Oen [0, 1, 2, 20] <| Vo <| Vn [6] <| V_ret <| X_ret_block <| X_ret_then <| Xr (nt 5) ⟨rfl, hK0⟩
theorem open_new (v gv gr i : Nat) (pp : List (Option Addr)) (t : Int) (w : World) (hv : Blk w v (pp.map Value.pointer ++ [pt gv, pt gr]) 130) (hlen : pp.length = 12) (hi : i < 12) (hx : pp[i]? = some none) (ht : 0 ≤ t ∧ t < 4) : Calls Tryz.prog 53 #[pt v, nt (i : Int), nt t] w fun e w' => ∃ b : Nat, e = .returned (nt 0) ∧ w.heap.size ≤ b ∧ Blk w' b (PollS.cells ⟨t, Tly.zero, 0, 0⟩) 167 ∧ Blk w' v ((pp.set i (some ⟨b, 0, none⟩)).map Value.pointer ++ [pt gv, pt gr]) 130 ∧ Keep (only v) w w' := by
 have hvlt := hv.lt
 have hK0 : Keep (only v) w w := Keep.refl _ _
 refine eV ?_
 refine Vr <| On 1 [0, 1, 2] <| Oe <| V_seq <| V_block <| Vr <| On 4 [0, 1, 2, 10, 11] <| Kq (vIn_spec (i : Int) 0 11 _) <| On 8 [0, 1, 2, 15] <| Oq (u := .bool (!(decide ((0 : Int) ≤ (i : Int) ∧ (i : Int) ≤ 11)))) (v := .bool false) 15 (by rw [decide_eq_true (by omega : (0 : Int) ≤ (i : Int) ∧ (i : Int) ≤ 11)]; rfl) <| On 9 [0, 1, 2, 15, 16] <| Kq (isTrk_spec t _) <| Oen [0, 1, 2, 7] <| Vq (u := .bool (!(decide (0 ≤ t ∧ t ≤ 3)))) (v := .bool false) 7 (by rw [decide_eq_true (by omega : 0 ≤ t ∧ t ≤ 3)]; rfl) <| Vf <| Vr <| On 2 [0, 1, 2, 21, 22] <| Kk (pollfn_at v gv gr i pp none _ hv hlen hi hx) fun w9 hk10 _ => ?_
 replace hK0 := hK0.tn hk10
 refine Oen [0, 1, 2, 20] <| Vf <| V_skip <| X_block <| X_then <| Vr <| On 4 [25, 26, 28] <| Bx 167 [nt t, nt 0, nt 0, nt 0, nt 0, nt 0] ?_
 intro b12 w12 e12 hb12 k12 z12
 have hsz13 := Keep.size k12
 replace hv := hv.k0 (hk10.tr k12)
 replace hK0 := hK0.tn k12
 have hb12lt := hb12.lt
 refine On 7 [26, 29, 31] <| OI_pure (some 32) (.indexAddr 128 (.tmp 31) (.tmp 26)) (by kernel_rfl) (pure_idxArr (b := v) (o := 0) (m := 12) (kd := .i64) (j := i) (E := 127) (sz := 1) (by kernel_rfl) (by kernel_rfl) (by kernel_rfl) (by omega)) <| OI_set (m := 1) (kd := false) 127 (.tmp 32) (.tmp 29) (0 + i * 1) (pt b12) [pt b12] none (by kernel_rfl) (by kernel_rfl) (by kernel_rfl) hv (by kernel_rfl) (by kernel_rfl) (by kernel_rfl) (by rw [List.length_append, List.length_map, hlen]; show 0 + i * 1 + 1 ≤ 14; omega) (by simp [Value.oneCell']) ?_
 intro w14 hv_17 hk15 hz16
 replace hv_17 : Blk w14 v ((pp.set i ((some ⟨b12, 0, none⟩))).map Value.pointer ++ [pt gv, pt gr]) 130 := (by rw [over_pp (by omega)] at hv_17; exact hv_17)
 have hsz18 := Keep.size hk15
 replace hb12 := hb12.k1 hk15
 replace hK0 := Keep.fr hK0 hk15
 exact Oer <| Oen [6] <| Rr (nt 0) ⟨b12, rfl, by omega, hb12, hv_17, hK0⟩
def VotE (F : Nat → Prop) (w : World) (v : Nat) (s : VS) : Prop := ∃ P, Vot F w v P s
theorem VotE.lt (h : VotE F w v s) : ∀ q, F q → q < w.heap.size := by obtain ⟨P, h⟩ := h; exact h.lt
theorem VotE.at_ (h : VotE F w v s) : F v := by obtain ⟨P, h⟩ := h; exact h.at_
theorem VotE.inv (h : VotE F w v s) : s.Inv := by obtain ⟨P, h⟩ := h; exact h.inv
theorem VotE.keep {S : Nat → Prop} (h : VotE F w v s) (k : Keep S w w') (hS : ∀ q, F q → ¬ S q) : VotE F w' v s := by obtain ⟨P, h⟩ := h; exact ⟨P, h.keep k hS⟩
theorem VotE.quiet {N : Nat} (h : VotE F w v s) (k : Keep (lb N w) w w') : VotE F w' v s := by obtain ⟨P, h⟩ := h; exact ⟨P, h.quiet k⟩
theorem VotE.same (h : VotE F w v s) (k : Keep none_ w w') : (∃ F', VotE F' w' v s ∧ (∀ q, F' q → F q ∨ w.heap.size ≤ q)) ∧ Keep F w w' := ⟨⟨F, h.keep k nk, fun _ h => .inl h⟩, k.ofNone⟩
theorem open_spec (F : Nat → Prop) (v : Nat) (s : VS) (ref t : Int) (w : World) (h : VotE F w v s) : Calls Tryz.prog 53 #[pt v, nt ref, nt t] w fun e w' => e = .returned (nt (openE s ref t)) ∧ (∃ F', VotE F' w' v (openS s ref t) ∧ (∀ q, F' q → F q ∨ w.heap.size ≤ q)) ∧ Keep F w w' := by
  by_cases hr : ¬ (0 ≤ ref ∧ ref < 12) ∨ ¬ (0 ≤ t ∧ t < 4)
  · have he : openE s ref t = 1 := by unfold openE; rw [if_pos hr]
    have hs : openS s ref t = s := by unfold openS; rw [he, if_neg (by decide)]
    rw [he, hs]
    refine (open_bad v ref t w hr).mono ?_
    rintro e w' ⟨rfl, hk⟩
    exact ⟨rfl, h.same hk⟩
  · obtain ⟨P, hP⟩ := h
    have hr2 : (0 ≤ ref ∧ ref < 12) ∧ (0 ≤ t ∧ t < 4) := by omega
    rcases hP.pollcase ref with ⟨hn, hc⟩ | ⟨i, b, q, rfl, hi, e1, e2, hs⟩
    · rcases hc with hc | ⟨i, rfl, hi, e1⟩
      · exact absurd hr2.1 hc
      have he : openE s (i : Int) t = 0 := by unfold openE; rw [if_neg hr, hn]; rfl
      have hs : openS s (i : Int) t = s.setP i ⟨t, Tly.zero, 0, 0⟩ := by unfold openS; rw [he, if_pos rfl, Int.toNat_natCast]
      rw [he, hs]
      refine (open_new v P.gv P.gr i P.pp t w hP.vblk.2 hP.vblk.1 hi e1 hr2.2).mono ?_
      rintro e w' ⟨b, rfl, hge, hb, hv, hk⟩
      obtain ⟨F', hF, hfr⟩ := hP.addPoll hi e1 hk hv hb hge
      exact ⟨rfl, ⟨F', ⟨_, hF⟩, hfr⟩, hk.mono (fun q _ hq => by rw [show q = v from hq]; exact hP.at_)⟩
    · have he : openE s (i : Int) t = 5 := by unfold openE; rw [if_neg hr, hs]; rfl
      have hs : openS s (i : Int) t = s := by unfold openS; rw [he, if_neg (by decide)]
      rw [he, hs]
      refine (open_has v P.gv P.gr i P.pp b t w hP.vblk.2 hP.vblk.1 hi e1 hr2.2).mono ?_
      rintro e w' ⟨rfl, hk⟩
      exact ⟨rfl, VotE.same ⟨P, hP⟩ hk⟩
theorem close_out (v : Nat) (ref st en : Int) (w : World) (hr : ¬ (0 ≤ ref ∧ ref < 12)) : Calls Tryz.prog 51 #[pt v, nt ref, nt st, nt en] w (rk_ w (nt 4)) := by
 have hK0 := Keep.refl none_ w
 refine eV ?_
 refine Vr <| On 1 [0, 1, 2, 3] <| Oer <| On 2 [0, 2, 3, 10, 11] <| Kk (pollfn_out v ref _ hr) fun w1 hk2 _ => ?_
 replace hK0 := hK0.tn hk2
 exact On 4 [0, 2, 3, 9] <| Oe <| V_seq <| V_block <| Vn [2, 3, 9, 13] <| Vf <| Vn [2, 3, 9, 16] <| Vo <| Vn [8] <| V_ret <| X_ret_block <| X_ret_then <| Xr (nt 4) ⟨rfl, hK0⟩
theorem close_none (v gv gr i : Nat) (pp : List (Option Addr)) (st en : Int) (w : World) (hv : Blk w v (pp.map Value.pointer ++ [pt gv, pt gr]) 130) (hlen : pp.length = 12) (hi : i < 12) (hx : pp[i]? = some none) : Calls Tryz.prog 51 #[pt v, nt (i : Int), nt st, nt en] w (rk_ w (nt 4)) := by
 have hK0 := Keep.refl none_ w
 refine eV ?_
 refine Vr <| On 1 [0, 1, 2, 3] <| Oer <| On 2 [0, 2, 3, 10, 11] <| Kk (pollfn_at v gv gr i pp none _ hv hlen hi hx) fun w1 hk2 _ => ?_
 replace hK0 := hK0.tn hk2
 exact On 4 [0, 2, 3, 9] <| Oe <| V_seq <| V_block <| Vn [2, 3, 9, 13] <| Vf <| Vn [2, 3, 9, 16] <| Vo <| Vn [8] <| V_ret <| X_ret_block <| X_ret_then <| Xr (nt 4) ⟨rfl, hK0⟩
theorem close_bad (v gv gr i : Nat) (pp : List (Option Addr)) (b : Nat) (q : PollS) (st en : Int) (w : World) (hv : Blk w v (pp.map Value.pointer ++ [pt gv, pt gr]) 130) (hlen : pp.length = 12) (hi : i < 12) (hx : pp[i]? = some (some ⟨b, 0, none⟩)) (hb : Blk w b q.cells 167) (hq : q.state ≠ 0 ∨ ¬ (2 ≤ st ∧ st ≤ 6)) : Calls Tryz.prog 51 #[pt v, nt (i : Int), nt st, nt en] w fun e w' => e = .returned (nt (if q.state ≠ 0 then 9 else 1)) ∧ Keep none_ w w' := by
 have hvlt := hv.lt
 have hblt := hb.lt
 have hK0 := Keep.refl none_ w
 refine eV ?_
 refine Vr <| On 1 [0, 1, 2, 3] <| Oer <| On 2 [0, 2, 3, 10, 11] <| Kk (pollfn_at v gv gr i pp (some ⟨b, 0, none⟩) _ hv hlen hi hx) fun w1 hk2 _ => ?_
 replace hb := hb.k0 hk2
 replace hK0 := hK0.tn hk2
 refine On 4 [0, 2, 3, 9] <| Oe <| V_seq <| V_block <| Vn [2, 3, 9, 13] <| Vf <| Vn [2, 3, 9, 16] <| Vf <| Vr <| On 3 [2, 3, 9, 22] <| Lr 4 (nt q.state) hb <| Oen [2, 3, 9, 19] <| V_not (q.state = 0) (by kernel_rfl) (fun hc4 => ?_) (fun hc4 => ?_)
 ·
  exact Vn [8] <| V_ret <| X_ret_block <| X_ret_then <| Xr (nt 9) ⟨by simp [*], hK0⟩
 refine Vr <| On 1 [2, 3, 9, 26] <| Kq (vIn_spec st 2 6 _) <| Ose [(2, nt st),(3, nt en),(9, pt b),(25, .bool (!(decide ((2 : Int) ≤ st ∧ st ≤ 6))))] <| V_not ((2 : Int) ≤ st ∧ st ≤ 6) (by kernel_rfl) (fun hc8 => ?_) (fun hc8 => ?_)
 ·
  exact Vn [8] <| V_ret <| X_ret_block <| X_ret_then <| Xr (nt 1) ⟨by simp [*], hK0⟩
 exact (by omega : False).elim
theorem close_ok (v gv gr i : Nat) (pp : List (Option Addr)) (b : Nat) (q : PollS) (st en : Int) (w : World) (hv : Blk w v (pp.map Value.pointer ++ [pt gv, pt gr]) 130) (hlen : pp.length = 12) (hi : i < 12) (hx : pp[i]? = some (some ⟨b, 0, none⟩)) (hb : Blk w b q.cells 167) (hvb : v ≠ b) (hq : q.state = 0) (hs : 2 ≤ st ∧ st ≤ 6) : Calls Tryz.prog 51 #[pt v, nt (i : Int), nt st, nt en] w fun e w' => e = .returned (nt 0) ∧ Blk w' b (PollS.cells { q with state := st, stop := en }) 167 ∧ Keep (only b) w w' := by
 have hvlt := hv.lt
 have hblt := hb.lt
 have hK0 : Keep (only b) w w := Keep.refl _ _
 refine eV ?_
 refine Vr <| On 1 [0, 1, 2, 3] <| Oer <| On 2 [0, 2, 3, 10, 11] <| Kk (pollfn_at v gv gr i pp (some ⟨b, 0, none⟩) _ hv hlen hi hx) fun w1 hk2 _ => ?_
 replace hb := hb.k0 hk2
 replace hK0 := hK0.tn hk2
 refine On 4 [0, 2, 3, 9] <| Oe <| V_seq <| V_block <| Vn [2, 3, 9, 13] <| Vf <| Vn [2, 3, 9, 16] <| Vf <| Vr <| On 3 [2, 3, 9, 22] <| Lr 4 (nt q.state) hb <| Oen [2, 3, 9, 19] <| Vq (u := .bool (!(decide (q.state = 0)))) (v := .bool false) 19 (by rw [decide_eq_true (by omega : q.state = 0)]; rfl) <| Vf <| Vr <| On 1 [2, 3, 9, 26] <| Kq (vIn_spec st 2 6 _) <| Oen [2, 3, 9, 25] <| Vq (u := .bool (!(decide ((2 : Int) ≤ st ∧ st ≤ 6)))) (v := .bool false) 25 (by rw [decide_eq_true (by omega : (2 : Int) ≤ st ∧ st ≤ 6)]; rfl) <| Vf <| V_skip <| X_block <| X_then <| Vr <| On 6 [30, 31, 32, 34] <| St_ 4 (nt st) hb ?_
 intro w9 hb_12 hk10 hz11
 replace hb_12 : Blk w9 b [nt q.track, nt q.t.a, nt q.t.n, nt q.t.s, nt st, nt q.stop] 167 := hb_12
 have hsz13 := Keep.size hk10
 replace hK0 := Keep.fr hK0 hk10
 refine On 9 [32, 36] <| St_ 5 (nt en) hb_12 ?_
 intro w14 hb_17 hk15 hz16
 replace hb_17 : Blk w14 b [nt q.track, nt q.t.a, nt q.t.n, nt q.t.s, nt st, nt en] 167 := hb_17
 have hsz18 := Keep.size hk15
 replace hK0 := Keep.fr hK0 hk15
 exact Oer <| Oen [8] <| Rr (nt 0) ⟨rfl, hb_17, hK0⟩
theorem close_spec (F : Nat → Prop) (v : Nat) (s : VS) (ref st en : Int) (w : World) (h : VotE F w v s) : Calls Tryz.prog 51 #[pt v, nt ref, nt st, nt en] w fun e w' => e = .returned (nt (closeE s ref st)) ∧ (∃ F', VotE F' w' v (closeS s ref st en) ∧ (∀ q, F' q → F q ∨ w.heap.size ≤ q)) ∧ Keep F w w' := by
  obtain ⟨P, hP⟩ := h
  rcases hP.pollcase ref with ⟨hn, hc⟩ | ⟨i, b, q, rfl, hi, e1, e2, hs⟩
  · have he : closeE s ref st = 4 := by unfold closeE; rw [hn]
    have hs : closeS s ref st en = s := by unfold closeS; rw [hn]
    rw [he, hs]
    rcases hc with hc | ⟨i, rfl, hi, e1⟩
    · refine (close_out v ref st en w hc).mono ?_
      rintro e w' ⟨rfl, hk⟩
      exact ⟨rfl, VotE.same ⟨P, hP⟩ hk⟩
    · refine (close_none v P.gv P.gr i P.pp st en w hP.vblk.2 hP.vblk.1 hi e1).mono ?_
      rintro e w' ⟨rfl, hk⟩
      exact ⟨rfl, VotE.same ⟨P, hP⟩ hk⟩
  · obtain ⟨hb, hF⟩ := hP.pollB e1 e2
    by_cases hq : q.state ≠ 0 ∨ ¬ (2 ≤ st ∧ st ≤ 6)
    · have he : closeE s (i : Int) st = if q.state ≠ 0 then 9 else 1 := by
        unfold closeE; rw [hs]; dsimp only
        by_cases h9 : q.state ≠ 0
        · rw [if_pos h9, if_pos h9]
        · rw [if_neg h9, if_neg h9, if_pos (hq.resolve_left h9)]
      have hs2 : closeS s (i : Int) st en = s := by
        unfold closeS; rw [hs, he]; dsimp only
        rw [if_neg]; split <;> decide
      rw [he, hs2]
      refine (close_bad v P.gv P.gr i P.pp b q st en w hP.vblk.2 hP.vblk.1 hi e1 hb hq).mono ?_
      rintro e w' ⟨rfl, hk⟩
      exact ⟨rfl, VotE.same ⟨P, hP⟩ hk⟩
    · have hq2 : q.state = 0 ∧ (2 ≤ st ∧ st ≤ 6) := by omega
      have he : closeE s (i : Int) st = 0 := by unfold closeE; rw [hs]; dsimp only; rw [if_neg (by omega), if_neg (by omega)]
      have hs2 : closeS s (i : Int) st en = s.setP i { q with state := st, stop := en } := by unfold closeS; rw [hs, he]; dsimp only; rw [if_pos rfl, Int.toNat_natCast]
      rw [he, hs2]
      refine (close_ok v P.gv P.gr i P.pp b q st en w hP.vblk.2 hP.vblk.1 hi e1 hb (Blk.ne hP.vblk.2 hb (by decide)) hq2.1 hq2.2).mono ?_
      rintro e w' ⟨rfl, hb', hk⟩
      exact ⟨rfl, ⟨F, ⟨P, hP.setPoll e1 e2 hk hb'⟩, fun _ h => .inl h⟩, hk.mono (fun x _ hx => by rw [show x = b from hx]; exact hF)⟩
theorem tally_out (v : Nat) (ref : Int) (w : World) (hr : ¬ (0 ≤ ref ∧ ref < 12)) : Calls Tryz.prog 107 #[pt v, nt ref] w fun e w' => e = .returned (.agg (Tly.cells Tly.zero).toArray) ∧ Keep none_ w w' := by
 have hK0 := Keep.refl none_ w
 refine enterM Tryz.func107 rfl [pt v, nt ref] 16 rfl rfl rfl ?_
 refine Vp [(0, pt v),(1, nt ref)] <| Vr <| Alc_ 42 (.agg #[nt 0, nt 0, nt 0]) [nt 0, nt 0, nt 0] ?_
 intro b1 w1 e1 hb1 k1 z1
 have hsz2 := Keep.size k1
 replace hK0 := hK0.tn k1
 have hb1lt := hb1.lt
 refine Oer <| On 2 [4, 6, 7] <| Kk (pollfn_out v ref _ hr) fun w3 hk4 _ => ?_
 replace hb1 := hb1.k0 hk4
 replace hK0 := hK0.tn hk4
 refine On 4 [4, 5] <| Oe <| V_seq <| Vn [4, 5, 10] <| Vo <| Vr <| Os 1 [(4, pt b1),(11, .agg #[nt 0, nt 0, nt 0])] <| OI_set (m := 3) (kd := true) 42 (.tmp 4) (.tmp 11) 0 (.agg #[nt 0, nt 0, nt 0]) [nt 0, nt 0, nt 0] none (by kernel_rfl) (by kernel_rfl) (by kernel_rfl) hb1 (by kernel_rfl) (by kernel_rfl) (by kernel_rfl) (Nat.le_of_ble_eq_true (by kernel_rfl)) (by simp [Value.oneCell']) ?_
 intro w6 hb1_9 hk7 hz8
 replace hb1_9 : Blk w6 b1 [nt 0, nt 0, nt 0] 42 := hb1_9
 have hsz10 := Keep.size hk7
 replace hK0 := Keep.fr hK0 hk7
 refine Oe <| Rt ?_
 exact leave0 (.agg [nt 0, nt 0, nt 0].toArray) (.inl rfl) (res_agg1 (m := 3) rfl rfl (by kernel_rfl) hb1_9 rfl) ⟨rfl, hK0⟩
theorem tally_none (v gv gr i : Nat) (pp : List (Option Addr)) (w : World) (hv : Blk w v (pp.map Value.pointer ++ [pt gv, pt gr]) 130) (hlen : pp.length = 12) (hi : i < 12) (hx : pp[i]? = some none) : Calls Tryz.prog 107 #[pt v, nt (i : Int)] w fun e w' => e = .returned (.agg (Tly.cells Tly.zero).toArray) ∧ Keep none_ w w' := by
 have hvlt := hv.lt
 have hK0 := Keep.refl none_ w
 refine enterM Tryz.func107 rfl [pt v, nt (i : Int)] 16 rfl rfl rfl ?_
 refine Vp [(0, pt v),(1, nt (i : Int))] <| Vr <| Alc_ 42 (.agg #[nt 0, nt 0, nt 0]) [nt 0, nt 0, nt 0] ?_
 intro b1 w1 e1 hb1 k1 z1
 have hsz2 := Keep.size k1
 replace hv := hv.k0 k1
 replace hK0 := hK0.tn k1
 have hb1lt := hb1.lt
 refine Oer <| On 2 [4, 6, 7] <| Kk (pollfn_at v gv gr i pp none _ hv hlen hi hx) fun w3 hk4 _ => ?_
 replace hb1 := hb1.k0 hk4
 replace hK0 := hK0.tn hk4
 refine On 4 [4, 5] <| Oe <| V_seq <| Vn [4, 5, 10] <| Vo <| Vr <| Os 1 [(4, pt b1),(11, .agg #[nt 0, nt 0, nt 0])] <| OI_set (m := 3) (kd := true) 42 (.tmp 4) (.tmp 11) 0 (.agg #[nt 0, nt 0, nt 0]) [nt 0, nt 0, nt 0] none (by kernel_rfl) (by kernel_rfl) (by kernel_rfl) hb1 (by kernel_rfl) (by kernel_rfl) (by kernel_rfl) (Nat.le_of_ble_eq_true (by kernel_rfl)) (by simp [Value.oneCell']) ?_
 intro w6 hb1_9 hk7 hz8
 replace hb1_9 : Blk w6 b1 [nt 0, nt 0, nt 0] 42 := hb1_9
 have hsz10 := Keep.size hk7
 replace hK0 := Keep.fr hK0 hk7
 refine Oe <| Rt ?_
 exact leave0 (.agg [nt 0, nt 0, nt 0].toArray) (.inl rfl) (res_agg1 (m := 3) rfl rfl (by kernel_rfl) hb1_9 rfl) ⟨rfl, hK0⟩
theorem tally_some (v gv gr i : Nat) (pp : List (Option Addr)) (b : Nat) (q : PollS) (w : World) (hv : Blk w v (pp.map Value.pointer ++ [pt gv, pt gr]) 130) (hlen : pp.length = 12) (hi : i < 12) (hx : pp[i]? = some (some ⟨b, 0, none⟩)) (hb : Blk w b q.cells 167) : Calls Tryz.prog 107 #[pt v, nt (i : Int)] w fun e w' => e = .returned (.agg (Tly.cells q.t).toArray) ∧ Keep none_ w w' := by
 have hvlt := hv.lt
 have hblt := hb.lt
 have hK0 := Keep.refl none_ w
 refine enterM Tryz.func107 rfl [pt v, nt (i : Int)] 16 rfl rfl rfl ?_
 refine Vp [(0, pt v),(1, nt (i : Int))] <| Vr <| Alc_ 42 (.agg #[nt 0, nt 0, nt 0]) [nt 0, nt 0, nt 0] ?_
 intro b1 w1 e1 hb1 k1 z1
 have hsz2 := Keep.size k1
 replace hv := hv.k0 k1
 replace hK0 := hK0.tn k1
 have hb1lt := hb1.lt
 refine Oer <| On 2 [4, 6, 7] <| Kk (pollfn_at v gv gr i pp (some ⟨b, 0, none⟩) _ hv hlen hi hx) fun w3 hk4 _ => ?_
 replace hb := hb.k0 (k1.tr hk4)
 replace hb1 := hb1.k0 hk4
 replace hK0 := hK0.tn hk4
 refine On 4 [4, 5] <| Oe <| V_seq <| Vn [4, 5, 10] <| Vf <| Vsk <| Vr <| Os 3 [(4, pt b1),(14, po_ b 1)] <| Oa 42 (.tmp 14) 1 [nt q.t.a, nt q.t.n, nt q.t.s] (some 15) 3 hb rfl rfl <| OI_set (m := 3) (kd := true) 42 (.tmp 4) (.tmp 15) 0 (.agg #[nt q.t.a, nt q.t.n, nt q.t.s]) [nt q.t.a, nt q.t.n, nt q.t.s] none (by kernel_rfl) (by kernel_rfl) (by kernel_rfl) hb1 (by kernel_rfl) (by kernel_rfl) (by kernel_rfl) (Nat.le_of_ble_eq_true (by kernel_rfl)) (by simp [Value.oneCell']) ?_
 intro w6 hb1_9 hk7 hz8
 replace hb1_9 : Blk w6 b1 [nt q.t.a, nt q.t.n, nt q.t.s] 42 := hb1_9
 have hsz10 := Keep.size hk7
 replace hK0 := Keep.fr hK0 hk7
 refine Oe <| V_ret ?_
 exact leave0 (.agg [nt q.t.a, nt q.t.n, nt q.t.s].toArray) (.inl rfl) (res_agg1 (m := 3) rfl rfl (by kernel_rfl) hb1_9 rfl) ⟨rfl, hK0⟩
theorem tally_spec (F : Nat → Prop) (v : Nat) (s : VS) (ref : Int) (w : World) (h : VotE F w v s) : Calls Tryz.prog 107 #[pt v, nt ref] w fun e w' => e = .returned (.agg (Tly.cells (tallyT s ref)).toArray) ∧ Keep none_ w w' := by
  obtain ⟨P, hP⟩ := h
  rcases hP.pollcase ref with ⟨hn, hc⟩ | ⟨i, b, q, rfl, hi, e1, e2, hs⟩
  · rw [show tallyT s ref = Tly.zero by unfold tallyT; rw [hn]]
    rcases hc with hc | ⟨i, rfl, hi, e1⟩
    · exact tally_out v ref w hc
    · exact tally_none v P.gv P.gr i P.pp w hP.vblk.2 hP.vblk.1 hi e1
  · rw [show tallyT s (i : Int) = q.t by unfold tallyT; rw [hs]]
    exact tally_some v P.gv P.gr i P.pp b q w hP.vblk.2 hP.vblk.1 hi e1 (hP.pollB e1 e2).1
end Go.Al
namespace Go.Al
open Go Go.RowKit Go.Proofs
def trk (s : VS) (ref : Int) : Int := match s.ps[ref.toNat]? with | some (some q) => q.track | _ => -1
def vrow (s : VS) (a t : Int) : List (Int × Vt) := (GV.rowL a s.cs).filter (fun p => trk s p.1 == t)
theorem rowL_mem {a : Int} {cs : List GV.Ci} {k : Nat} {c : Int × Vt} (h : (GV.rowL a cs)[k]? = some c) : ∃ x ∈ cs, x.a = a ∧ x.b = c.1 ∧ x.v = c.2 := by
  have hm := List.mem_of_getElem? h
  unfold GV.rowL at hm
  obtain ⟨x, hx, rfl⟩ := List.mem_map.1 hm
  obtain ⟨h1, h2⟩ := List.mem_filter.1 hx
  exact ⟨x, h1, by simpa using h2, rfl, rfl⟩
section
variable {A : Option Addr} {cap : Nat} {F S : Nat → Prop} {w w' : World} {v N : Nat} {P : VP} {s : VS}
end
end Go.Al
namespace Go.Al
open Go Go.RowKit Go.Proofs
theorem trk_setP {s : VS} {i : Nat} {q q' : PollS} (h : s.ps[i]? = some (some q)) (ht : q'.track = q.track) (r : Int) : trk (s.setP i q') r = trk s r := by
  unfold trk VS.setP
  by_cases he : i = r.toNat
  · subst he
    have hl := (List.getElem?_eq_some_iff.1 h).1
    simp only [List.getElem?_set_self hl, h, ht]
  · simp only [List.getElem?_set_ne he]
theorem vrow_congr {s s' : VS} (hc : s'.cs = s.cs) (ht : ∀ r, trk s' r = trk s r) (a t : Int) : vrow s' a t = vrow s a t := by
  unfold vrow
  rw [hc]
  congr 1
  funext p
  rw [ht]
end Go.Al
namespace Go.Al
open Go Go.RowKit Go.Proofs
def TrkOk (s : VS) : Prop := ∀ (i : Nat) q, s.ps[i]? = some (some q) → 0 ≤ q.track ∧ q.track < 4
end Go.Al
namespace Go.Al
open Go Go.RowKit Go.Proofs
variable {s : VS}
def VS.zero : VS := ⟨List.replicate 12 none, [], fun _ _ => RecS.zero⟩
theorem Vot.new {F1 F2 : Nat → Prop} {w : World} {v gv gr : Nat} (h1 : GV.Grd F1 w gv []) (h2 : GR.Grd F2 w gr []) (hb : Blk w v ((List.replicate 12 none).map Value.pointer ++ [pt gv, pt gr]) 130) (d12 : ∀ q, F1 q → ¬ F2 q) (n1 : ∀ q, F1 q → q ≠ v) (n2 : ∀ q, F2 q → q ≠ v) :
    Vot (fun q => F1 q ∨ F2 q ∨ q = v) w v ⟨gv, gr, List.replicate 12 none, []⟩ VS.zero := by
  refine ⟨F1, F2, fun q => q = v, ⟨⟨rfl, (fun c hc => by cases hc),(fun a t d hd => by cases hd)⟩, h1, h2, rfl, fun q hq => by rw [hq]; exact hb.lt, d12, n1, n2, rfl, hb, fun i hi => ?_, ?_, fun c hc => (by cases hc), fun a t => .inl ⟨rfl, rfl⟩, ?_⟩, fun _ h => .inl h, fun _ h => .inr (.inl h), fun _ h => .inr (.inr h), ?_⟩
  · left
    show (List.replicate 12 none)[i]? = some none ∧ (List.replicate 12 none)[i]? = some none
    rw [List.getElem?_replicate, List.getElem?_replicate, if_pos hi, if_pos hi]; exact ⟨rfl, rfl⟩
  · intro i j b hi
    have hi' : (List.replicate 12 (none : Option Addr))[i]? = some (some ⟨b, 0, none⟩) := hi
    rw [List.getElem?_replicate] at hi'
    split at hi' <;> cases hi'
  · intro a t a' t' q hq; cases hq
  · rintro q (h | h | rfl)
    · exact h1.lt q h
    · exact h2.lt q h
    · exact hb.lt
theorem TrkOk.zero : TrkOk VS.zero := by
  intro i q h
  have h' : (List.replicate 12 (none : Option PollS))[i]? = some (some q) := h
  rw [List.getElem?_replicate] at h'
  split at h' <;> cases h'
theorem TrkOk.setP (h : TrkOk s) {i : Nat} {q : PollS} (hq : 0 ≤ q.track ∧ q.track < 4) : TrkOk (s.setP i q) := by
  intro j q' e
  have e' : (s.ps.set i (some q))[j]? = some (some q') := e
  rw [List.getElem?_set] at e'
  split at e'
  · split at e'
    · simp only [Option.some.injEq] at e'; rw [← e']; exact hq
    · cases e'
  · exact h j q' e'
theorem TrkOk.poll (h : TrkOk s) {ref : Int} {q : PollS} (e : pollAt s ref = some q) : 0 ≤ q.track ∧ q.track < 4 := by
  unfold pollAt at e
  split at e
  · cases hg : s.ps[ref.toNat]? with
    | none => rw [hg] at e; cases e
    | some x => rw [hg] at e; exact h _ _ (by rw [hg]; exact congrArg some e)
  · cases e
theorem TrkOk.cs (h : TrkOk s) (c : List GV.Ci) : TrkOk { s with cs := c } := h
theorem TrkOk.openS (h : TrkOk s) (ref t : Int) : TrkOk (openS s ref t) := by
  unfold Al.openS
  split
  · rename_i he
    refine h.setP ?_
    show 0 ≤ t ∧ t < 4
    unfold openE at he
    split at he
    · cases he
    · omega
  · exact h
theorem TrkOk.closeS (h : TrkOk s) (ref st en : Int) : TrkOk (closeS s ref st en) := by
  unfold Al.closeS
  split
  · exact h
  · rename_i q hq
    split
    · exact h.setP (show 0 ≤ q.track ∧ q.track < 4 from h.poll hq)
    · exact h
def VotT (F : Nat → Prop) (w : World) (v : Nat) (s : VS) : Prop := VotE F w v s ∧ TrkOk s
section
variable {F S : Nat → Prop} {w w' : World} {v N : Nat} {s : VS}
theorem VotT.lt (h : VotT F w v s) : ∀ q, F q → q < w.heap.size := h.1.lt
theorem VotT.at_ (h : VotT F w v s) : F v := h.1.at_
theorem VotT.keep (h : VotT F w v s) (k : Keep S w w') (hS : ∀ q, F q → ¬ S q) : VotT F w' v s := ⟨h.1.keep k hS, h.2⟩
theorem VotT.quiet (h : VotT F w v s) (k : Keep (lb N w) w w') : VotT F w' v s := ⟨h.1.quiet k, h.2⟩
theorem VotT.inv (h : VotT F w v s) : s.Inv := h.1.inv
end
theorem new_votT (w : World) : Calls Tryz.prog 22 #[] w fun e w' => ∃ v F, e = .returned (pt v) ∧ VotT F w' v VS.zero ∧ Keep none_ w w' ∧ (∀ q, F q → w.heap.size ≤ q) := by
 have hK0 := Keep.refl none_ w
 refine eV ?_
 refine Vr <| On 1 [] <| Oer <| Kg (GV.new_grd _) ?_
 rintro _ w1 ⟨g3, F4, rfl, ho5, hk2, hge6⟩
 refine ⟨_, rfl, ?_⟩
 have hsz7 := Keep.size hk2
 replace hK0 := hK0.tn hk2
 have own8 : ∀ q, F4 q → w.heap.size ≤ q := fun q hq => by have h1 := hge6 q hq; omega
 have lt9 := GV.Grd.lt ho5
 have hg3lt : g3 < w1.heap.size := GV.Grd.lt ho5 _ (GV.Grd.at_ ho5)
 have hg3ge := hge6 _ (GV.Grd.at_ ho5)
 refine Kg (GR.new_grd _) ?_
 rintro _ w10 ⟨g12, F13, rfl, ho14, hk11, hge15⟩
 refine ⟨_, rfl, ?_⟩
 have hsz16 := Keep.size hk11
 replace hK0 := hK0.tn hk11
 replace ho5 := GV.Grd.keep ho5 hk11 nk
 have own17 : ∀ q, F13 q → w1.heap.size ≤ q := fun q hq => by have h1 := hge15 q hq; omega
 have lt18 := GR.Grd.lt ho14
 have dis19 : ∀ q, F13 q → ¬ F4 q := fun q h1 h2 => by have h3 := hge15 q h1; have h4 := lt9 q h2; omega
 have hg12lt : g12 < w10.heap.size := GR.Grd.lt ho14 _ (GR.Grd.at_ ho14)
 have hg12ge := hge15 _ (GR.Grd.at_ ho14)
 refine On 3 [3] <| Bx 130 [.pointer none, .pointer none, .pointer none, .pointer none, .pointer none, .pointer none, .pointer none, .pointer none, .pointer none, .pointer none, .pointer none, .pointer none, pt g3, pt g12] ?_
 intro b20 w20 e20 hb20 k20 z20
 have hsz21 := Keep.size k20
 replace hK0 := hK0.tn k20
 replace ho5 := GV.Grd.keep ho5 k20 nk
 replace ho14 := GR.Grd.keep ho14 k20 nk
 have hb20lt := hb20.lt
 refine Ose [(0, pt b20)] <| V_ret ?_
 exact X_return _ rfl ⟨b20, _, rfl, ⟨⟨_, Vot.new (gv := g3) (gr := g12) ho5 ho14 hb20 (fun q h1 h2 => dis19 q h2 h1) (fun q hq => by have h1 := lt9 q hq; omega) (fun q hq => by have h1 := lt18 q hq; omega)⟩, TrkOk.zero⟩, hK0, fun q hq => by rcases hq with h | h | h; (have h1 := own8 q h; omega); (have h1 := own17 q h; omega); omega⟩
theorem open_specT (F : Nat → Prop) (v : Nat) (s : VS) (ref t : Int) (w : World) (h : VotT F w v s) : Calls Tryz.prog 53 #[pt v, nt ref, nt t] w fun e w' => e = .returned (nt (openE s ref t)) ∧ (∃ F', VotT F' w' v (openS s ref t) ∧ (∀ q, F' q → F q ∨ w.heap.size ≤ q)) ∧ Keep F w w' := by
  obtain ⟨h, ht⟩ := h
  refine (open_spec F v s ref t w h).mono ?_
  rintro e w' ⟨rfl, ⟨F', h1, h3⟩, hk⟩
  exact ⟨rfl, ⟨F', ⟨h1, ht.openS _ _⟩, h3⟩, hk⟩
theorem close_specT (F : Nat → Prop) (v : Nat) (s : VS) (ref st en : Int) (w : World) (h : VotT F w v s) : Calls Tryz.prog 51 #[pt v, nt ref, nt st, nt en] w fun e w' => e = .returned (nt (closeE s ref st)) ∧ (∃ F', VotT F' w' v (closeS s ref st en) ∧ (∀ q, F' q → F q ∨ w.heap.size ≤ q)) ∧ Keep F w w' := by
  obtain ⟨h, ht⟩ := h
  refine (close_spec F v s ref st en w h).mono ?_
  rintro e w' ⟨rfl, ⟨F', h1, h3⟩, hk⟩
  exact ⟨rfl, ⟨F', ⟨h1, ht.closeS _ _ _⟩, h3⟩, hk⟩
end Go.Al
namespace Go.Al
open Go Go.RowKit Go.Proofs
def fallsC (c : Crv) : Prop := (0 ≤ c.a ∧ c.a ≤ 1000000000) ∧ (0 ≤ c.b ∧ c.b ≤ c.a) ∧ (1 ≤ c.c ∧ c.c ≤ 1000000000)
instance (c : Crv) : Decidable (fallsC c) := by unfold fallsC; infer_instance
def okCrv (c : Crv) : Prop := (c.k = 1 ∧ fallsC c ∧ c.d = 0) ∨ (c.k = 2 ∧ fallsC c ∧ 1 ≤ c.d ∧ c.d ≤ 1000000000) ∨ (c.k = 3 ∧ (0 ≤ c.a ∧ c.a ≤ 1000000000) ∧ (0 ≤ c.c ∧ c.c ≤ 1000000000) ∧ (1 ≤ c.b ∧ c.b ≤ 1000000000) ∧ c.d = 0)
instance (c : Crv) : Decidable (okCrv c) := by unfold okCrv; infer_instance
def okTrk (t : Trk) : Prop := (1 ≤ t.most ∧ t.most ≤ 12) ∧ (0 ≤ t.deposit ∧ t.deposit ≤ 1073741824) ∧ (0 ≤ t.cap ∧ t.cap ≤ 1073741824) ∧ (0 ≤ t.prepare ∧ t.prepare ≤ 1000) ∧ (0 ≤ t.confirm ∧ t.confirm ≤ 1000) ∧ (0 ≤ t.enact ∧ t.enact ≤ 1000) ∧ (1 ≤ t.decision ∧ t.decision ≤ 1000) ∧ okCrv t.app ∧ okCrv t.sup ∧ (0 ≤ t.rank ∧ t.rank ≤ 2)
instance (t : Trk) : Decidable (okTrk t) := by unfold okTrk; infer_instance
def Trk.zero : Trk := ⟨0, 0, 0, 0, 0, 0, ⟨0, 0, 0, 0, 0⟩, ⟨0, 0, 0, 0, 0⟩, 0, 0⟩
def trkO (ts : List Trk) (i : Int) : Option Trk := if 0 ≤ i ∧ i < ts.length then ts[i.toNat]? else none
def trkA (ts : List Trk) (i : Int) : Trk := (trkO ts i).getD Trk.zero
def getR (rs : List Rfm) (i : Int) : Option Rfm := if 0 ≤ i ∧ i < rs.length then rs[i.toNat]? else none
def getA (rs : List Rfm) (i : Int) : Rfm := (getR rs i).getD Rfm.zero
def newR (of : Int) (sum : Nat → Int) (after now who : Int) : Rfm := ⟨1, of, sum, after, now, who, true, -1, -1, -1, 0, Tly.zero⟩
def subE (xs : List Acc) (cs : List Ci) (s : VS) (ts : List Trk) (rs : List Rfm) (who of after : Int) : Int :=
  if (trkO ts of).isNone ∨ who < 0 ∨ who ≥ 10 ∨ after < 0 ∨ after > 1000 then 1 else if rs.length ≥ 12 then 3 else if (pollAt s rs.length).isSome then 5 else spendsE xs cs who 10
def subX (xs : List Acc) (cs : List Ci) (s : VS) (ts : List Trk) (rs : List Rfm) (who of after : Int) : List Acc := if subE xs cs s ts rs who of after = 0 then resX xs cs who 10 else xs
def subS (xs : List Acc) (cs : List Ci) (s : VS) (ts : List Trk) (rs : List Rfm) (who of after : Int) : VS := if subE xs cs s ts rs who of after = 0 then openS s rs.length of else s
def subR (xs : List Acc) (cs : List Ci) (s : VS) (ts : List Trk) (rs : List Rfm) (who of after : Int) (sum : Nat → Int) (now : Int) : List Rfm := if subE xs cs s ts rs who of after = 0 then rs ++ [newR of sum after now who] else rs
def ongE (rs : List Rfm) (ref : Int) : Int := match getR rs ref with | none => 4 | some x => if x.state = 1 then 0 else 9
def endY (s : VS) (x : Rfm) (ref st now : Int) : Rfm := { x with state := st, stop := now, t := tallyT s ref }
def endR (s : VS) (rs : List Rfm) (ref st now : Int) : List Rfm := rs.set ref.toNat (endY s (getA rs ref) ref st now)
def canR (s : VS) (rs : List Rfm) (ref now : Int) : List Rfm := if ongE rs ref = 0 then endR s rs ref 5 now else rs
def canS (s : VS) (rs : List Rfm) (ref now : Int) : VS := if ongE rs ref = 0 then closeS s ref 5 now else s
def canL (rs : List Rfm) (ref : Int) : List Evt := if ongE rs ref = 0 then [Evt.mk 1 ref 5] else []
def kilX1 (xs : List Acc) (x : Rfm) : List Acc := if x.put = true then slX xs x.by_ 10 else xs
def kilX2 (xs : List Acc) (ts : List Trk) (x : Rfm) : List Acc := if x.backer ≠ -1 then slX xs x.backer (trkA ts x.track).deposit else xs
def kilX (xs : List Acc) (ts : List Trk) (rs : List Rfm) (ref : Int) : List Acc := if ongE rs ref = 0 then kilX2 (kilX1 xs (getA rs ref)) ts (getA rs ref) else xs
def kilS (s : VS) (rs : List Rfm) (ref now : Int) : VS := if ongE rs ref = 0 then closeS s ref 6 now else s
def kilR (s : VS) (rs : List Rfm) (ref now : Int) : List Rfm := if ongE rs ref = 0 then rs.set ref.toNat { endY s (getA rs ref) ref 6 now with put := false, backer := -1 } else rs
def kilL1 (xs : List Acc) (x : Rfm) : List Evt := if x.put = true then [Evt.mk 6 x.by_ (tkN xs x.by_ 10)] else []
def kilL2 (xs : List Acc) (ts : List Trk) (x : Rfm) : List Evt := if x.backer ≠ -1 then [Evt.mk 6 x.backer (tkN xs x.backer (trkA ts x.track).deposit)] else []
def kilL (xs : List Acc) (ts : List Trk) (rs : List Rfm) (ref : Int) : List Evt := if ongE rs ref = 0 then [Evt.mk 1 ref 6] ++ kilL1 xs (getA rs ref) ++ kilL2 (kilX1 xs (getA rs ref)) ts (getA rs ref) else []
end Go.Al
namespace Go.Al
open Go Go.RowKit Go.Proofs
theorem pIn_spec (n lo hi : Int) (w : World) : Calls Tryz.prog 101 #[nt n, nt lo, nt hi] w fun e w' => e = .returned (.bool (decide (lo ≤ n ∧ n ≤ hi))) ∧ w' = w := by
 refine eV ?_
 refine Vr <| On 1 [0, 1, 2] <| Oer <| On 4 [0, 2, 10] ?_
 by_cases hg1 : n ≥ lo
 ·
  exact Dt 10 hg1 <| Oen [6] <| Rr (.bool (decide (n ≤ hi))) ⟨by congr 2; simp only [Bool.decide_and]; by_cases h1 : lo ≤ n <;> simp [h1] <;> omega, rfl⟩
 exact Df 10 hg1 <| Oen [6] <| Rr (.bool false) ⟨by congr 2; simp only [Bool.decide_and]; by_cases h1 : lo ≤ n <;> simp [h1] <;> omega, rfl⟩
theorem tIn_spec (n lo hi : Int) (w : World) : Calls Tryz.prog 70 #[nt n, nt lo, nt hi] w fun e w' => e = .returned (.bool (decide (lo ≤ n ∧ n ≤ hi))) ∧ w' = w := by
 refine eV ?_
 refine Vr <| On 1 [0, 1, 2] <| Oer <| On 4 [0, 2, 10] ?_
 by_cases hg1 : n ≥ lo
 ·
  exact Dt 10 hg1 <| Oen [6] <| Rr (.bool (decide (n ≤ hi))) ⟨by congr 2; simp only [Bool.decide_and]; by_cases h1 : lo ≤ n <;> simp [h1] <;> omega, rfl⟩
 exact Df 10 hg1 <| Oen [6] <| Rr (.bool false) ⟨by congr 2; simp only [Bool.decide_and]; by_cases h1 : lo ≤ n <;> simp [h1] <;> omega, rfl⟩
theorem perIs_spec (c : Crv) (w : World) : Calls Tryz.prog 71 #[.agg c.cells.toArray] w fun e w' => e = .returned (.bool (decide (okCrv c))) ∧ Keep none_ w w' := by
 have hK0 := Keep.refl none_ w
 refine eV ?_
 refine Vr <| OI_box 78 (.tmp 0) (.agg (Crv.cells c).toArray) (Crv.cells c) (some 1) (by kernel_rfl) (by kernel_rfl) rfl ?_
 intro b1 w1 e1 hb1 k1 z1
 have hsz2 := Keep.size k1
 replace hK0 := hK0.tn k1
 have hb1lt := hb1.lt
 refine On 2 [1] <| Oer <| On 1 [1, 4] <| Lr 1 (nt c.a) hb1 <| Kq (pIn_spec c.a 0 1000000000 _) <| On 4 [1, 7] ?_
 by_cases hg4 : (0 : Int) ≤ c.a ∧ c.a ≤ 1000000000
 ·
  refine Dt 7 hg4 <| On 5 [1, 7, 8] <| Lr 2 (nt c.b) hb1 <| On 7 [1, 7, 9, 10] <| Lr 1 (nt c.a) hb1 <| Kq (pIn_spec c.b 0 c.a _) <| On 11 [1, 14] ?_
  by_cases hg6 : (0 : Int) ≤ c.b ∧ c.b ≤ c.a
  ·
   refine Dt 14 hg6 <| On 12 [1, 14, 15] <| Lr 3 (nt c.c) hb1 <| Kq (pIn_spec c.c 1 1000000000 _) <| On 16 [1, 3] <| Oe <| V_seq <| Vr <| On 1 [1, 3, 19] <| Lr 0 (nt c.k) hb1 <| Oe <| V_block <| Vn [1, 3, 20, 21] <| Vi (c.k = 1) (fun hc8 => ?_) (fun hc8 => ?_)
   ·
    refine Vr <| On 2 [1, 24] ?_
    by_cases hg9 : (1 : Int) ≤ c.c ∧ c.c ≤ 1000000000
    ·
     exact Dt 24 hg9 <| On 3 [24, 25] <| Lr 4 (nt c.d) hb1 <| Oen [2] <| V_ret <| X_ret_block <| X_ret_then <| Xr (.bool (decide (c.d = 0))) ⟨by congr 2; first | (apply Eq.symm; (try simp only [decide_eq_true_eq]); (try simp only [decide_eq_false_iff_not]); unfold okCrv fallsC; simp_all <;> omega) | (rw [decide_eq_decide]; unfold okCrv fallsC; simp_all <;> omega), hK0⟩
    exact Df 24 hg9 <| Oen [2] <| V_ret <| X_ret_block <| X_ret_then <| Xr (.bool false) ⟨by congr 2; first | (apply Eq.symm; (try simp only [decide_eq_true_eq]); (try simp only [decide_eq_false_iff_not]); unfold okCrv fallsC; simp_all <;> omega) | (rw [decide_eq_decide]; unfold okCrv fallsC; simp_all <;> omega), hK0⟩
   refine Vn [1, 3, 20, 29] <| Vi (c.k = 2) (fun hc10 => ?_) (fun hc10 => ?_)
   ·
    refine Vr <| On 2 [1, 32] ?_
    by_cases hg11 : (1 : Int) ≤ c.c ∧ c.c ≤ 1000000000
    ·
     exact Dt 32 hg11 <| On 3 [32, 33] <| Lr 4 (nt c.d) hb1 <| Kq (pIn_spec c.d 1 1000000000 _) <| Oen [2] <| V_ret <| X_ret_block <| X_ret_then <| Xr (.bool (decide ((1 : Int) ≤ c.d ∧ c.d ≤ 1000000000))) ⟨by congr 2; first | (apply Eq.symm; (try simp only [decide_eq_true_eq]); (try simp only [decide_eq_false_iff_not]); unfold okCrv fallsC; simp_all <;> omega) | (rw [decide_eq_decide]; unfold okCrv fallsC; simp_all <;> omega), hK0⟩
    exact Df 32 hg11 <| Oen [2] <| V_ret <| X_ret_block <| X_ret_then <| Xr (.bool false) ⟨by congr 2; first | (apply Eq.symm; (try simp only [decide_eq_true_eq]); (try simp only [decide_eq_false_iff_not]); unfold okCrv fallsC; simp_all <;> omega) | (rw [decide_eq_decide]; unfold okCrv fallsC; simp_all <;> omega), hK0⟩
   refine Vn [1, 37] <| Vi (c.k = 3) (fun hc13 => ?_) (fun hc13 => ?_)
   ·
    refine Vr <| On 1 [1, 39] <| Lr 1 (nt c.a) hb1 <| Kq (pIn_spec c.a 0 1000000000 _) <| On 4 [1, 42] ?_
    by_cases hg15 : (0 : Int) ≤ c.a ∧ c.a ≤ 1000000000
    ·
     refine Dt 42 hg15 <| On 5 [1, 42, 43] <| Lr 3 (nt c.c) hb1 <| Kq (pIn_spec c.c 0 1000000000 _) <| On 9 [1, 47] ?_
     by_cases hg17 : (0 : Int) ≤ c.c ∧ c.c ≤ 1000000000
     ·
      refine Dt 47 hg17 <| On 10 [1, 47, 48] <| Lr 2 (nt c.b) hb1 <| Kq (pIn_spec c.b 1 1000000000 _) <| On 14 [1, 52] ?_
      by_cases hg19 : (1 : Int) ≤ c.b ∧ c.b ≤ 1000000000
      ·
       exact Dt 52 hg19 <| On 15 [52, 53] <| Lr 4 (nt c.d) hb1 <| Oen [2] <| V_ret <| X_ret_block <| X_ret_then <| Xr (.bool (decide (c.d = 0))) ⟨by congr 2; first | (apply Eq.symm; (try simp only [decide_eq_true_eq]); (try simp only [decide_eq_false_iff_not]); unfold okCrv fallsC; simp_all <;> omega) | (rw [decide_eq_decide]; unfold okCrv fallsC; simp_all <;> omega), hK0⟩
      exact Df 52 hg19 <| Oen [2] <| V_ret <| X_ret_block <| X_ret_then <| Xr (.bool false) ⟨by congr 2; first | (apply Eq.symm; (try simp only [decide_eq_true_eq]); (try simp only [decide_eq_false_iff_not]); unfold okCrv fallsC; simp_all <;> omega) | (rw [decide_eq_decide]; unfold okCrv fallsC; simp_all <;> omega), hK0⟩
     exact Df 47 hg17 <| Oen [2] <| V_ret <| X_ret_block <| X_ret_then <| Xr (.bool false) ⟨by congr 2; first | (apply Eq.symm; (try simp only [decide_eq_true_eq]); (try simp only [decide_eq_false_iff_not]); unfold okCrv fallsC; simp_all <;> omega) | (rw [decide_eq_decide]; unfold okCrv fallsC; simp_all <;> omega), hK0⟩
    exact Df 42 hg15 <| Oen [2] <| V_ret <| X_ret_block <| X_ret_then <| Xr (.bool false) ⟨by congr 2; first | (apply Eq.symm; (try simp only [decide_eq_true_eq]); (try simp only [decide_eq_false_iff_not]); unfold okCrv fallsC; simp_all <;> omega) | (rw [decide_eq_decide]; unfold okCrv fallsC; simp_all <;> omega), hK0⟩
   exact V_skip <| X_block <| X_then <| Vn [2] <| Rr (.bool false) ⟨by congr 2; first | (apply Eq.symm; (try simp only [decide_eq_true_eq]); (try simp only [decide_eq_false_iff_not]); unfold okCrv fallsC; simp_all <;> omega) | (rw [decide_eq_decide]; unfold okCrv fallsC; simp_all <;> omega), hK0⟩
  refine Df 14 hg6 <| On 16 [1, 3] <| Oe <| V_seq <| Vr <| On 1 [1, 3, 19] <| Lr 0 (nt c.k) hb1 <| Oe <| V_block <| Vn [1, 3, 20, 21] <| Vi (c.k = 1) (fun hc20 => ?_) (fun hc20 => ?_)
  ·
   exact Vn [2] <| V_ret <| X_ret_block <| X_ret_then <| Xr (.bool false) ⟨by congr 2; first | (apply Eq.symm; (try simp only [decide_eq_true_eq]); (try simp only [decide_eq_false_iff_not]); unfold okCrv fallsC; simp_all <;> omega) | (rw [decide_eq_decide]; unfold okCrv fallsC; simp_all <;> omega), hK0⟩
  refine Vn [1, 3, 20, 29] <| Vi (c.k = 2) (fun hc21 => ?_) (fun hc21 => ?_)
  ·
   exact Vn [2] <| V_ret <| X_ret_block <| X_ret_then <| Xr (.bool false) ⟨by congr 2; first | (apply Eq.symm; (try simp only [decide_eq_true_eq]); (try simp only [decide_eq_false_iff_not]); unfold okCrv fallsC; simp_all <;> omega) | (rw [decide_eq_decide]; unfold okCrv fallsC; simp_all <;> omega), hK0⟩
  refine Vn [1, 37] <| Vi (c.k = 3) (fun hc22 => ?_) (fun hc22 => ?_)
  ·
   refine Vr <| On 1 [1, 39] <| Lr 1 (nt c.a) hb1 <| Kq (pIn_spec c.a 0 1000000000 _) <| On 4 [1, 42] ?_
   by_cases hg24 : (0 : Int) ≤ c.a ∧ c.a ≤ 1000000000
   ·
    refine Dt 42 hg24 <| On 5 [1, 42, 43] <| Lr 3 (nt c.c) hb1 <| Kq (pIn_spec c.c 0 1000000000 _) <| On 9 [1, 47] ?_
    by_cases hg26 : (0 : Int) ≤ c.c ∧ c.c ≤ 1000000000
    ·
     refine Dt 47 hg26 <| On 10 [1, 47, 48] <| Lr 2 (nt c.b) hb1 <| Kq (pIn_spec c.b 1 1000000000 _) <| On 14 [1, 52] ?_
     by_cases hg28 : (1 : Int) ≤ c.b ∧ c.b ≤ 1000000000
     ·
      exact Dt 52 hg28 <| On 15 [52, 53] <| Lr 4 (nt c.d) hb1 <| Oen [2] <| V_ret <| X_ret_block <| X_ret_then <| Xr (.bool (decide (c.d = 0))) ⟨by congr 2; first | (apply Eq.symm; (try simp only [decide_eq_true_eq]); (try simp only [decide_eq_false_iff_not]); unfold okCrv fallsC; simp_all <;> omega) | (rw [decide_eq_decide]; unfold okCrv fallsC; simp_all <;> omega), hK0⟩
     exact Df 52 hg28 <| Oen [2] <| V_ret <| X_ret_block <| X_ret_then <| Xr (.bool false) ⟨by congr 2; first | (apply Eq.symm; (try simp only [decide_eq_true_eq]); (try simp only [decide_eq_false_iff_not]); unfold okCrv fallsC; simp_all <;> omega) | (rw [decide_eq_decide]; unfold okCrv fallsC; simp_all <;> omega), hK0⟩
    exact Df 47 hg26 <| Oen [2] <| V_ret <| X_ret_block <| X_ret_then <| Xr (.bool false) ⟨by congr 2; first | (apply Eq.symm; (try simp only [decide_eq_true_eq]); (try simp only [decide_eq_false_iff_not]); unfold okCrv fallsC; simp_all <;> omega) | (rw [decide_eq_decide]; unfold okCrv fallsC; simp_all <;> omega), hK0⟩
   exact Df 42 hg24 <| Oen [2] <| V_ret <| X_ret_block <| X_ret_then <| Xr (.bool false) ⟨by congr 2; first | (apply Eq.symm; (try simp only [decide_eq_true_eq]); (try simp only [decide_eq_false_iff_not]); unfold okCrv fallsC; simp_all <;> omega) | (rw [decide_eq_decide]; unfold okCrv fallsC; simp_all <;> omega), hK0⟩
  exact V_skip <| X_block <| X_then <| Vn [2] <| Rr (.bool false) ⟨by congr 2; first | (apply Eq.symm; (try simp only [decide_eq_true_eq]); (try simp only [decide_eq_false_iff_not]); unfold okCrv fallsC; simp_all <;> omega) | (rw [decide_eq_decide]; unfold okCrv fallsC; simp_all <;> omega), hK0⟩
 refine Df 7 hg4 <| On 16 [1, 3] <| Oe <| V_seq <| Vr <| On 1 [1, 3, 19] <| Lr 0 (nt c.k) hb1 <| Oe <| V_block <| Vn [1, 3, 20, 21] <| Vi (c.k = 1) (fun hc29 => ?_) (fun hc29 => ?_)
 ·
  exact Vn [2] <| V_ret <| X_ret_block <| X_ret_then <| Xr (.bool false) ⟨by congr 2; first | (apply Eq.symm; (try simp only [decide_eq_true_eq]); (try simp only [decide_eq_false_iff_not]); unfold okCrv fallsC; simp_all <;> omega) | (rw [decide_eq_decide]; unfold okCrv fallsC; simp_all <;> omega), hK0⟩
 refine Vn [1, 3, 20, 29] <| Vi (c.k = 2) (fun hc30 => ?_) (fun hc30 => ?_)
 ·
  exact Vn [2] <| V_ret <| X_ret_block <| X_ret_then <| Xr (.bool false) ⟨by congr 2; first | (apply Eq.symm; (try simp only [decide_eq_true_eq]); (try simp only [decide_eq_false_iff_not]); unfold okCrv fallsC; simp_all <;> omega) | (rw [decide_eq_decide]; unfold okCrv fallsC; simp_all <;> omega), hK0⟩
 refine Vn [1, 37] <| Vi (c.k = 3) (fun hc31 => ?_) (fun hc31 => ?_)
 ·
  refine Vr <| On 1 [1, 39] <| Lr 1 (nt c.a) hb1 <| Kq (pIn_spec c.a 0 1000000000 _) <| On 4 [1, 42] ?_
  by_cases hg33 : (0 : Int) ≤ c.a ∧ c.a ≤ 1000000000
  ·
   refine Dt 42 hg33 <| On 5 [1, 42, 43] <| Lr 3 (nt c.c) hb1 <| Kq (pIn_spec c.c 0 1000000000 _) <| On 9 [1, 47] ?_
   by_cases hg35 : (0 : Int) ≤ c.c ∧ c.c ≤ 1000000000
   ·
    refine Dt 47 hg35 <| On 10 [1, 47, 48] <| Lr 2 (nt c.b) hb1 <| Kq (pIn_spec c.b 1 1000000000 _) <| On 14 [1, 52] ?_
    by_cases hg37 : (1 : Int) ≤ c.b ∧ c.b ≤ 1000000000
    ·
     exact Dt 52 hg37 <| On 15 [52, 53] <| Lr 4 (nt c.d) hb1 <| Oen [2] <| V_ret <| X_ret_block <| X_ret_then <| Xr (.bool (decide (c.d = 0))) ⟨by congr 2; first | (apply Eq.symm; (try simp only [decide_eq_true_eq]); (try simp only [decide_eq_false_iff_not]); unfold okCrv fallsC; simp_all <;> omega) | (rw [decide_eq_decide]; unfold okCrv fallsC; simp_all <;> omega), hK0⟩
    exact Df 52 hg37 <| Oen [2] <| V_ret <| X_ret_block <| X_ret_then <| Xr (.bool false) ⟨by congr 2; first | (apply Eq.symm; (try simp only [decide_eq_true_eq]); (try simp only [decide_eq_false_iff_not]); unfold okCrv fallsC; simp_all <;> omega) | (rw [decide_eq_decide]; unfold okCrv fallsC; simp_all <;> omega), hK0⟩
   exact Df 47 hg35 <| Oen [2] <| V_ret <| X_ret_block <| X_ret_then <| Xr (.bool false) ⟨by congr 2; first | (apply Eq.symm; (try simp only [decide_eq_true_eq]); (try simp only [decide_eq_false_iff_not]); unfold okCrv fallsC; simp_all <;> omega) | (rw [decide_eq_decide]; unfold okCrv fallsC; simp_all <;> omega), hK0⟩
  exact Df 42 hg33 <| Oen [2] <| V_ret <| X_ret_block <| X_ret_then <| Xr (.bool false) ⟨by congr 2; first | (apply Eq.symm; (try simp only [decide_eq_true_eq]); (try simp only [decide_eq_false_iff_not]); unfold okCrv fallsC; simp_all <;> omega) | (rw [decide_eq_decide]; unfold okCrv fallsC; simp_all <;> omega), hK0⟩
 exact V_skip <| X_block <| X_then <| Vn [2] <| Rr (.bool false) ⟨by congr 2; first | (apply Eq.symm; (try simp only [decide_eq_true_eq]); (try simp only [decide_eq_false_iff_not]); unfold okCrv fallsC; simp_all <;> omega) | (rw [decide_eq_decide]; unfold okCrv fallsC; simp_all <;> omega), hK0⟩
end Go.Al
namespace Go.Al
open Go Go.RowKit Go.Proofs
theorem trkIs_spec (x : Trk) (w : World) : Calls Tryz.prog 42 #[.agg x.cells.toArray] w fun e w' => e = .returned (.bool (decide (okTrk x))) ∧ Keep none_ w w' := by
 have hK0 := Keep.refl none_ w
 refine eV ?_
 refine Vr <| OI_box 80 (.tmp 0) (.agg (Trk.cells x).toArray) (Trk.cells x) (some 1) (by kernel_rfl) (by kernel_rfl) rfl ?_
 intro b1 w1 e1 hb1 k1 z1
 have hsz2 := Keep.size k1
 replace hK0 := hK0.tn k1
 have hb1lt := hb1.lt
 refine On 2 [1] <| Oer <| On 1 [1, 3] <| Lr 0 (nt x.most) hb1 <| Kq (tIn_spec x.most 1 12 _) <| On 4 [1, 6] ?_
 by_cases hg6 : (1 : Int) ≤ x.most ∧ x.most ≤ 12
 ·
  refine Dt 6 hg6 <| On 5 [1, 6, 7] <| Lr 1 (nt x.deposit) hb1 <| Kq (tIn_spec x.deposit 0 1073741824 _) <| On 9 [1, 11] ?_
  by_cases hg10 : (0 : Int) ≤ x.deposit ∧ x.deposit ≤ 1073741824
  ·
   refine Dt 11 hg10 <| On 10 [1, 11, 12] <| Lr 16 (nt x.cap) hb1 <| Kq (tIn_spec x.cap 0 1073741824 _) <| On 14 [1, 16] ?_
   by_cases hg14 : (0 : Int) ≤ x.cap ∧ x.cap ≤ 1073741824
   ·
    refine Dt 16 hg14 <| On 15 [1, 16, 17] <| Lr 2 (nt x.prepare) hb1 <| Kq (tIn_spec x.prepare 0 1000 _) <| On 19 [1, 21] ?_
    by_cases hg18 : (0 : Int) ≤ x.prepare ∧ x.prepare ≤ 1000
    ·
     refine Dt 21 hg18 <| On 20 [1, 21, 22] <| Lr 4 (nt x.confirm) hb1 <| Kq (tIn_spec x.confirm 0 1000 _) <| On 24 [1, 26] ?_
     by_cases hg22 : (0 : Int) ≤ x.confirm ∧ x.confirm ≤ 1000
     ·
      refine Dt 26 hg22 <| On 25 [1, 26, 27] <| Lr 5 (nt x.enact) hb1 <| Kq (tIn_spec x.enact 0 1000 _) <| On 29 [1, 31] ?_
      by_cases hg26 : (0 : Int) ≤ x.enact ∧ x.enact ≤ 1000
      ·
       refine Dt 31 hg26 <| On 30 [1, 31, 32] <| Lr 3 (nt x.decision) hb1 <| Kq (tIn_spec x.decision 1 1000 _) <| On 34 [1, 36] ?_
       by_cases hg30 : (1 : Int) ≤ x.decision ∧ x.decision ≤ 1000
       ·
        refine Dt 36 hg30 <| On 35 [1, 36, 37] <| La 6 (Crv.cells x.app) 5 hb1 rfl rfl <| Kk (perIs_spec x.app _) fun w31 hk32 _ => ?_
        replace hb1 := hb1.k0 hk32
        replace hK0 := hK0.tn hk32
        refine On 39 [1, 41] ?_
        by_cases hg34 : okCrv x.app
        ·
         refine Dt 41 hg34 <| On 40 [1, 41, 42] <| La 11 (Crv.cells x.sup) 5 hb1 rfl rfl <| Kk (perIs_spec x.sup _) fun w35 hk36 _ => ?_
         replace hb1 := hb1.k0 hk36
         replace hK0 := hK0.tn hk36
         refine On 44 [1, 46] ?_
         by_cases hg38 : okCrv x.sup
         ·
          exact Dt 46 hg38 <| On 45 [46, 47] <| Lr 17 (nt x.rank) hb1 <| Kq (tIn_spec x.rank 0 2 _) <| Oen [2] <| Rr (.bool (decide ((0 : Int) ≤ x.rank ∧ x.rank ≤ 2))) ⟨by congr 2; first | (apply Eq.symm; (try simp only [decide_eq_true_eq]); (try simp only [decide_eq_false_iff_not]); unfold okTrk; simp_all <;> omega) | (rw [decide_eq_decide]; unfold okTrk; simp_all <;> omega), hK0⟩
         exact Df 46 hg38 <| Oen [2] <| Rr (.bool false) ⟨by congr 2; first | (apply Eq.symm; (try simp only [decide_eq_true_eq]); (try simp only [decide_eq_false_iff_not]); unfold okTrk; simp_all <;> omega) | (rw [decide_eq_decide]; unfold okTrk; simp_all <;> omega), hK0⟩
        exact Df 41 hg34 <| Oen [2] <| Rr (.bool false) ⟨by congr 2; first | (apply Eq.symm; (try simp only [decide_eq_true_eq]); (try simp only [decide_eq_false_iff_not]); unfold okTrk; simp_all <;> omega) | (rw [decide_eq_decide]; unfold okTrk; simp_all <;> omega), hK0⟩
       exact Df 36 hg30 <| Oen [2] <| Rr (.bool false) ⟨by congr 2; first | (apply Eq.symm; (try simp only [decide_eq_true_eq]); (try simp only [decide_eq_false_iff_not]); unfold okTrk; simp_all <;> omega) | (rw [decide_eq_decide]; unfold okTrk; simp_all <;> omega), hK0⟩
      exact Df 31 hg26 <| Oen [2] <| Rr (.bool false) ⟨by congr 2; first | (apply Eq.symm; (try simp only [decide_eq_true_eq]); (try simp only [decide_eq_false_iff_not]); unfold okTrk; simp_all <;> omega) | (rw [decide_eq_decide]; unfold okTrk; simp_all <;> omega), hK0⟩
     exact Df 26 hg22 <| Oen [2] <| Rr (.bool false) ⟨by congr 2; first | (apply Eq.symm; (try simp only [decide_eq_true_eq]); (try simp only [decide_eq_false_iff_not]); unfold okTrk; simp_all <;> omega) | (rw [decide_eq_decide]; unfold okTrk; simp_all <;> omega), hK0⟩
    exact Df 21 hg18 <| Oen [2] <| Rr (.bool false) ⟨by congr 2; first | (apply Eq.symm; (try simp only [decide_eq_true_eq]); (try simp only [decide_eq_false_iff_not]); unfold okTrk; simp_all <;> omega) | (rw [decide_eq_decide]; unfold okTrk; simp_all <;> omega), hK0⟩
   exact Df 16 hg14 <| Oen [2] <| Rr (.bool false) ⟨by congr 2; first | (apply Eq.symm; (try simp only [decide_eq_true_eq]); (try simp only [decide_eq_false_iff_not]); unfold okTrk; simp_all <;> omega) | (rw [decide_eq_decide]; unfold okTrk; simp_all <;> omega), hK0⟩
  exact Df 11 hg10 <| Oen [2] <| Rr (.bool false) ⟨by congr 2; first | (apply Eq.symm; (try simp only [decide_eq_true_eq]); (try simp only [decide_eq_false_iff_not]); unfold okTrk; simp_all <;> omega) | (rw [decide_eq_decide]; unfold okTrk; simp_all <;> omega), hK0⟩
 exact Df 6 hg6 <| Oen [2] <| Rr (.bool false) ⟨by congr 2; first | (apply Eq.symm; (try simp only [decide_eq_true_eq]); (try simp only [decide_eq_false_iff_not]); unfold okTrk; simp_all <;> omega) | (rw [decide_eq_decide]; unfold okTrk; simp_all <;> omega), hK0⟩
end Go.Al
namespace Go.Al
open Go Go.RowKit Go.Proofs
def cellsQ : Nat → List Rfm → List GQ.Ci
  | _, [] => []
  | i, x :: l => ⟨0, (i : Int), x⟩ :: cellsQ (i + 1) l
theorem cellsQ_len : ∀ (i : Nat) (l : List Rfm),(cellsQ i l).length = l.length
  | _, [] => rfl
  | i, x :: l => by simp only [cellsQ, List.length_cons, cellsQ_len]
theorem getQ : ∀ (l : List Rfm) (i : Nat) (ref : Int), GQ.getC 0 ref (cellsQ i l) = if (i : Int) ≤ ref then l[(ref - i).toNat]? else none
  | [], i, ref => by simp [cellsQ, GQ.getC]
  | x :: l, i, ref => by
    simp only [cellsQ, GQ.getC, true_and]
    by_cases h : (i : Int) = ref
    · rw [if_pos h, if_pos (by omega), show (ref - i).toNat = 0 by omega]; rfl
    · rw [if_neg h, getQ l (i + 1) ref]
      by_cases h2 : (i : Int) ≤ ref
      · rw [if_pos (by omega), if_pos h2, show (ref - (i : Int)).toNat = (ref - ((i + 1 : Nat) : Int)).toNat + 1 by omega, List.getElem?_cons_succ]
      · rw [if_neg (by omega), if_neg h2]
theorem getQ0 (l : List Rfm) (ref : Int) : GQ.getC 0 ref (cellsQ 0 l) = getR l ref := by
  rw [getQ]; unfold getR
  by_cases h : 0 ≤ ref
  · by_cases h2 : ref < l.length
    · rw [if_pos (by omega), if_pos ⟨h, h2⟩]; congr 1; omega
    · rw [if_pos (by omega), if_neg (by omega), List.getElem?_eq_none (by omega)]
  · rw [if_neg (by omega), if_neg (by omega)]
theorem setQ (x : Rfm) : ∀ (l : List Rfm) (i j : Nat), j < l.length → GQ.setC 0 ((i + j : Nat) : Int) x (cellsQ i l) = cellsQ i (l.set j x)
  | [], _, _, h => by simp at h
  | y :: l, i, 0, _ => by
    simp only [cellsQ, GQ.setC, List.set_cons_zero]
    rw [if_pos ⟨trivial, by omega⟩, show ((i + 0 : Nat) : Int) = i by omega]
  | y :: l, i, j + 1, h => by
    simp only [cellsQ, GQ.setC, List.set_cons_succ]
    rw [if_neg (by omega), if_pos (.inr ⟨rfl, by show (i : Int) < _; omega⟩), show ((i + (j + 1) : Nat) : Int) = ((i + 1 + j : Nat) : Int) by omega, setQ x l (i + 1) j (by simpa using h)]
theorem setQ_new (x : Rfm) : ∀ (l : List Rfm) (i : Nat), GQ.setC 0 ((i + l.length : Nat) : Int) x (cellsQ i l) = cellsQ i (l ++ [x])
  | [], i => rfl
  | y :: l, i => by
    simp only [cellsQ, GQ.setC, List.cons_append, List.length_cons]
    rw [if_neg (by omega), if_pos (.inr ⟨rfl, by show (i : Int) < _; omega⟩), show ((i + (l.length + 1) : Nat) : Int) = ((i + 1 + l.length : Nat) : Int) by omega, setQ_new x l (i + 1)]
structure RfIn (ts : List Trk) (rs : List Rfm) : Prop where
  tl : ts.length ≤ 4
  tok : ∀ t ∈ ts, okTrk t
  rl : rs.length ≤ 12
  rtk : ∀ x ∈ rs, 0 ≤ x.track ∧ x.track < ts.length
structure RfrX (D : Nat → Prop) (A : Option Addr) (cap : Nat) (w : World) (r g : Nat) (ts : List Trk) (rs : List Rfm) : Prop where
  blk : Blk w r [.slice A ts.length cap, pt g] 90
  sl : SlT w 18 Trk.cells A cap ts
  grd : GQ.Grd D w g (cellsQ 0 rs)
  dA : ∀ q, inA A q → ¬ D q
  rA : ∀ q, inA A q → q ≠ r
  rD : ∀ q, D q → q ≠ r
def Rfr (F : Nat → Prop) (w : World) (r g : Nat) (ts : List Trk) (rs : List Rfm) : Prop := RfIn ts rs ∧ (∀ q, F q → q < w.heap.size) ∧ ∃ D A cap, RfrX D A cap w r g ts rs ∧ F r ∧ (∀ q, D q → F q) ∧ (∀ q, inA A q → F q)
section
variable {F S : Nat → Prop} {w w' : World} {r g N : Nat} {ts : List Trk} {rs : List Rfm}
theorem Rfr.lt (h : Rfr F w r g ts rs) : ∀ q, F q → q < w.heap.size := h.2.1
theorem Rfr.inn (h : Rfr F w r g ts rs) : RfIn ts rs := h.1
theorem Rfr.at_ (h : Rfr F w r g ts rs) : F r := by obtain ⟨_, _, _, _, _, _, h, _⟩ := h; exact h
theorem Rfr.atg (h : Rfr F w r g ts rs) : F g := by obtain ⟨_, _, _, _, _, h, _, h2, _⟩ := h; exact h2 _ h.grd.at_
theorem Rfr.keep (h : Rfr F w r g ts rs) (k : Keep S w w') (hS : ∀ q, F q → ¬ S q) : Rfr F w' r g ts rs := by
  obtain ⟨h0, h1, D, A, cap, h2, h3, h4, h5⟩ := h
  exact ⟨h0, fun q hq => Nat.lt_of_lt_of_le (h1 q hq) k.size, D, A, cap, ⟨h2.blk.keep k (hS _ h3), h2.sl.keep k (fun q hq => hS q (h5 q hq)), h2.grd.keep k (fun q hq => hS q (h4 q hq)), h2.dA, h2.rA, h2.rD⟩, h3, h4, h5⟩
theorem Rfr.quiet (h : Rfr F w r g ts rs) (k : Keep (lb N w) w w') : Rfr F w' r g ts rs := by
  obtain ⟨h0, h1, D, A, cap, h2, h3, h4, h5⟩ := h
  exact ⟨h0, fun q hq => Nat.lt_of_lt_of_le (h1 q hq) k.size, D, A, cap, ⟨h2.blk.quiet k, h2.sl.quiet k, h2.grd.quiet k, h2.dA, h2.rA, h2.rD⟩, h3, h4, h5⟩
theorem Rfr.grq (h : Rfr F w r g ts rs) : ∃ D, GQ.Grd D w g (cellsQ 0 rs) := by obtain ⟨_, _, D, _, _, h, _⟩ := h; exact ⟨D, h.grd⟩
theorem Rfr.parts (h : Rfr F w r g ts rs) : ∃ A cap, Blk w r [.slice A ts.length cap, pt g] 90 ∧ SlT w 18 Trk.cells A cap ts ∧ (∀ q, inA A q → F q ∧ q ≠ r ∧ q ≠ g) ∧ r ≠ g := by
  obtain ⟨h0, h1, D, A, cap, h2, h3, h4, h5⟩ := h
  exact ⟨A, cap, h2.blk, h2.sl, fun q hq => ⟨h5 q hq, h2.rA q hq, fun e => h2.dA q hq (e ▸ h2.grd.at_)⟩, fun e => h2.rD _ h2.grd.at_ e.symm⟩
end
theorem setQ_grdO {F : Nat → Prop} {g : Nat} {cs : List GQ.Ci} {a b : Int} {x : Rfm} {w : World} (h : GQ.Grd F w g cs) (hmax : cs.length < 100000) : Calls Tryz.prog 54 #[pt g, nt a, nt b, .agg (Rfm.cells x).toArray] w fun e w' => e = .returned (.tuple #[]) ∧ (∃ F', GQ.Grd F' w' g (GQ.setC a b x cs) ∧ (∀ q, F' q → F q ∨ w.heap.size ≤ q)) ∧ Keep (only g) w w' :=
  (GQ.set_spec (fun q => F q ∨ w.heap.size ≤ q) g cs a b x w (h.gr.mono (fun _ h => .inl h)) (fun _ h => .inr h) hmax).mono (by
    rintro e w' ⟨rfl, h1, h2⟩
    exact ⟨rfl, ⟨GQ.more F w w', GQ.Grd.of h1 (.inl h.at_) (fun q hq hD => hD.imp id (fun h => ⟨h, hq⟩)) (fun q hq => by rcases hq with hq | hq; exact Nat.lt_of_lt_of_le (h.lt q hq) h2.size; exact hq.2), fun q hq => hq.imp id (·.1)⟩, h2⟩)
theorem Rfr.turn {F : Nat → Prop} {w w' : World} {r g : Nat} {ts : List Trk} {rs rs' : List Rfm} {D D' : Nat → Prop} {A : Option Addr} {cap : Nat} (h1 : ∀ q, F q → q < w.heap.size) (h2 : RfrX D A cap w r g ts rs) (h3 : F r) (h4 : ∀ q, D q → F q) (h5 : ∀ q, inA A q → F q)
    (k : Keep (only g) w w') (hin : RfIn ts rs') (hG : GQ.Grd D' w' g (cellsQ 0 rs')) (hfr : ∀ q, D' q → D q ∨ w.heap.size ≤ q) : (∃ F', Rfr F' w' r g ts rs' ∧ ∀ q, F' q → F q ∨ w.heap.size ≤ q) := by
  have hg := h2.grd.at_
  refine ⟨fun q => F q ∨ D' q, ⟨hin, fun q hq => ?_, D', A, cap, ⟨h2.blk.keep k (fun e => h2.rD _ hg (show r = g from e).symm), h2.sl.keep k (fun q hq e => h2.dA q hq (by rw [show q = g from e]; exact hg)), hG, fun q hq hd => ?_, h2.rA, fun q hq e => ?_⟩, .inl h3, fun q hq => .inr hq, fun q hq => .inl (h5 q hq)⟩, ?_⟩
  · rcases hq with hq | hq
    · exact Nat.lt_of_lt_of_le (h1 q hq) k.size
    · exact hG.lt q hq
  · rcases hfr q hd with hd | hd
    · exact h2.dA q hq hd
    · have := h1 q (h5 q hq); omega
  · rcases hfr q hq with hd | hd
    · exact h2.rD q hd e
    · have := h1 r h3; omega
  · rintro q (hq | hq)
    · exact .inl hq
    · exact (hfr q hq).imp (h4 q) id
theorem rset_spec (F : Nat → Prop) (r g : Nat) (ts : List Trk) (rs : List Rfm) (ref : Int) (x : Rfm) (w : World) (h : Rfr F w r g ts rs) (hj : 0 ≤ ref ∧ ref < rs.length) (ht : 0 ≤ x.track ∧ x.track < ts.length) : Calls Tryz.prog 54 #[pt g, nt 0, nt ref, .agg (Rfm.cells x).toArray] w fun e w' => e = .returned (.tuple #[]) ∧ (∃ F', Rfr F' w' r g ts (rs.set ref.toNat x) ∧ (∀ q, F' q → F q ∨ w.heap.size ≤ q)) ∧ Keep (only g) w w' := by
  obtain ⟨h0, h1, D, A, cap, h2, h3, h4, h5⟩ := h
  have hrl := h0.rl
  refine (setQ_grdO (a := 0) (b := ref) (x := x) h2.grd (by rw [cellsQ_len]; omega)).mono ?_
  rintro e w' ⟨rfl, ⟨D', hG, hfr⟩, hk⟩
  obtain ⟨j, rfl⟩ : ∃ j : Nat, ref = j := ⟨ref.toNat, by omega⟩
  have e1 := setQ x rs 0 j (by omega)
  rw [Nat.zero_add] at e1
  rw [e1] at hG
  refine ⟨rfl, Rfr.turn h1 h2 h3 h4 h5 hk ⟨h0.tl, h0.tok, by rw [List.length_set]; exact hrl, fun y hy => ?_⟩ hG hfr, hk⟩
  rcases List.mem_or_eq_of_mem_set hy with hy | rfl
  · exact h0.rtk y hy
  · exact ht
theorem rnew_spec (F : Nat → Prop) (r g : Nat) (ts : List Trk) (rs : List Rfm) (x : Rfm) (w : World) (h : Rfr F w r g ts rs) (hj : rs.length < 12) (ht : 0 ≤ x.track ∧ x.track < ts.length) : Calls Tryz.prog 54 #[pt g, nt 0, nt (rs.length : Int), .agg (Rfm.cells x).toArray] w fun e w' => e = .returned (.tuple #[]) ∧ (∃ F', Rfr F' w' r g ts (rs ++ [x]) ∧ (∀ q, F' q → F q ∨ w.heap.size ≤ q)) ∧ Keep (only g) w w' := by
  obtain ⟨h0, h1, D, A, cap, h2, h3, h4, h5⟩ := h
  refine (setQ_grdO (a := 0) (b := (rs.length : Int)) (x := x) h2.grd (by rw [cellsQ_len]; omega)).mono ?_
  rintro e w' ⟨rfl, ⟨D', hG, hfr⟩, hk⟩
  have e1 := setQ_new x rs 0
  rw [Nat.zero_add] at e1
  rw [e1] at hG
  refine ⟨rfl, Rfr.turn h1 h2 h3 h4 h5 hk ⟨h0.tl, h0.tok, by simp; omega, fun y hy => ?_⟩ hG hfr, hk⟩
  rcases List.mem_append.1 hy with hy | hy
  · exact h0.rtk y hy
  · rw [List.mem_singleton.1 hy]; exact ht
theorem qlen_spec (F : Nat → Prop) (r g : Nat) (ts : List Trk) (rs : List Rfm) (w : World) (h : Rfr F w r g ts rs) : Calls Tryz.prog 50 #[pt g] w fun e w' => e = .returned (nt (rs.length : Int)) ∧ w' = w := by
  obtain ⟨D, h⟩ := h.grq
  have := GQ.len_spec D g (cellsQ 0 rs) w h.gr
  rw [cellsQ_len] at this; exact this
theorem qget_spec (F : Nat → Prop) (r g : Nat) (ts : List Trk) (rs : List Rfm) (ref : Int) (w : World) (h : Rfr F w r g ts rs) : Calls Tryz.prog 29 #[pt g, nt 0, nt ref] w fun e w' => e = .returned (.tuple #[.agg (getA rs ref).cells.toArray, .bool (getR rs ref).isSome]) ∧ Keep none_ w w' := by
  obtain ⟨D, h⟩ := h.grq
  have := GQ.get_spec D g (cellsQ 0 rs) 0 ref w h.gr
  rw [getQ0] at this; exact this
theorem getA_in {rs : List Rfm} {ts : List Trk} (h : RfIn ts rs) {ref : Int} {x : Rfm} (hx : getR rs ref = some x) : (0 ≤ ref ∧ ref < rs.length) ∧ (0 ≤ x.track ∧ x.track < ts.length) ∧ rs[ref.toNat]? = some x ∧ getA rs ref = x := by
  have hx0 := hx
  unfold getR at hx
  split at hx
  · rename_i hr
    exact ⟨hr, h.rtk x (List.mem_of_getElem? hx), hx, by unfold getA; rw [hx0]; rfl⟩
  · cases hx
theorem trkA_at {ts : List Trk} {i : Int} (h : 0 ≤ i ∧ i < ts.length) : ∃ j : Nat, i = (j : Int) ∧ j < ts.length ∧ ts[j]? = some (trkA ts i) ∧ trkA ts i ∈ ts := by
  obtain ⟨j, rfl⟩ : ∃ j : Nat, i = j := ⟨i.toNat, by omega⟩
  have hj : j < ts.length := by omega
  have e : trkA ts (j : Int) = ts[j] := by unfold trkA trkO; rw [if_pos h, Int.toNat_natCast, List.getElem?_eq_getElem hj]; rfl
  exact ⟨j, rfl, hj, by rw [e, List.getElem?_eq_getElem hj], by rw [e]; exact List.getElem_mem hj⟩
end Go.Al
namespace Go.Al
open Go Go.RowKit Go.Proofs
theorem rget_spec (H : Nat → Prop) (r g : Nat) (ts : List Trk) (rs : List Rfm) (ref : Int) (w : World) (hR : Rfr H w r g ts rs) : Calls Tryz.prog 11 #[pt r, nt ref] w fun e w' => e = .returned (.tuple #[.agg (getA rs ref).cells.toArray, .bool (getR rs ref).isSome]) ∧ Keep none_ w w' := by
 have hHlt := Rfr.lt hR
 have hrH := Rfr.at_ hR
 have hgH := Rfr.atg hR
 have hrlt := hHlt _ hrH
 have hglt := hHlt _ hgH
 have hin := Rfr.inn hR
 obtain ⟨A, cap, hr, hA, hAo, hrg⟩ := Rfr.parts hR
 have hAlt := SlT.lt hA
 have hAr : ∀ q, inA A q → q ≠ r ∧ q ≠ g ∧ q < w.heap.size := fun q hq => ⟨(hAo q hq).2.1, (hAo q hq).2.2, hAlt q hq⟩
 have hgo : ∀ q, only g q → q ≠ r := fun q hq e => hrg (e.symm.trans hq)
 have hgl : ∀ q, only g q → q < w.heap.size := fun q hq => by rw [show q = g from hq]; exact hglt
 have hHo : ∀ q, H q → 0 ≤ q := fun q _ => Nat.zero_le q
 have htl := hin.tl
 have hrl := hin.rl
 have hK0 := Keep.refl none_ w
 refine enterM Tryz.func11 rfl [pt r, nt ref] 17 rfl rfl rfl ?_
 refine Vp [(0, pt r),(1, nt ref)] <| Vr <| Alc_ 44 (.agg (Rfm.cells Rfm.zero).toArray) (Rfm.cells Rfm.zero) ?_
 intro b1 w1 e1 hb1 k1 z1
 have hsz2 := Keep.size k1
 replace hr := hr.k0 k1
 replace hR := hR.keep k1 nk
 replace hK0 := hK0.tn k1
 have hb1lt := hb1.lt
 refine On 2 [0, 1, 4] <| Oe <| V_seq <| Vn [0, 1, 4, 7] <| Vf <| Vsk <| Vr <| On 3 [1, 4, 11] <| Lr 1 (pt g) hr <| On 5 [4, 12, 13] <| Kk (qget_spec H r g ts rs ref _ hR) fun w3 hk4 _ => ?_
 replace hb1 := hb1.k0 hk4
 replace hK0 := hK0.tn hk4
 refine On 8 [4, 15, 16] <| Sg 0 (Rfm.cells (getA rs ref)) hb1 (Rfm.len _) (Rfm.one _) ?_
 intro w6 hb1_9 hk7 hz8
 replace hb1_9 : Blk w6 b1 (Rfm.cells (getA rs ref)) 44 := (Blk.eqL (Rfm.over _ _) hb1_9)
 have hsz10 := Keep.size hk7
 replace hK0 := Keep.fr hK0 hk7
 refine Ose [(4, pt b1),(5, .bool ((getR rs ref).isSome))] <| V_ret ?_
 exact leave0 (.tuple #[.agg (Rfm.cells (getA rs ref)).toArray, .bool ((getR rs ref).isSome)]) (.inl rfl) (res_agg_tmp (m := 45) rfl rfl rfl (by kernel_rfl) hb1_9 rfl) ⟨rfl, hK0⟩
theorem rtrack_in (H : Nat → Prop) (r g : Nat) (ts : List Trk) (rs : List Rfm) (j : Nat) (w : World) (hR : Rfr H w r g ts rs) (hj : j < ts.length) : Calls Tryz.prog 26 #[pt r, nt (j : Int)] w fun e w' => e = .returned (.tuple #[.agg (trkA ts (j : Int)).cells.toArray, .bool (trkO ts (j : Int)).isSome]) ∧ Keep none_ w w' := by
 have hHlt := Rfr.lt hR
 have hrH := Rfr.at_ hR
 have hgH := Rfr.atg hR
 have hrlt := hHlt _ hrH
 have hglt := hHlt _ hgH
 have hin := Rfr.inn hR
 obtain ⟨A, cap, hr, hA, hAo, hrg⟩ := Rfr.parts hR
 have hAlt := SlT.lt hA
 have hAr : ∀ q, inA A q → q ≠ r ∧ q ≠ g ∧ q < w.heap.size := fun q hq => ⟨(hAo q hq).2.1, (hAo q hq).2.2, hAlt q hq⟩
 have hgo : ∀ q, only g q → q ≠ r := fun q hq e => hrg (e.symm.trans hq)
 have hgl : ∀ q, only g q → q < w.heap.size := fun q hq => by rw [show q = g from hq]; exact hglt
 have hHo : ∀ q, H q → 0 ≤ q := fun q _ => Nat.zero_le q
 have htl := hin.tl
 have hrl := hin.rl
 have hK0 := Keep.refl none_ w
 refine enterM Tryz.func26 rfl [pt r, nt (j : Int)] 29 rfl rfl rfl ?_
 refine Vp [(0, pt r),(1, nt (j : Int))] <| Vr <| Alc_ 80 (.agg (Trk.cells Trk.zero).toArray) (Trk.cells Trk.zero) ?_
 intro b1 w1 e1 hb1 k1 z1
 have hsz2 := Keep.size k1
 replace hr := hr.k0 k1
 replace hA := hA.keep0 k1
 replace hK0 := hK0.tn k1
 have hb1lt := hb1.lt
 refine On 2 [0, 1, 4] <| Oe <| V_seq <| Vr <| Os 7 [(0, pt r),(1, nt (j : Int)),(4, pt b1),(12, .bool (decide ((j : Int) < 0)))] ?_
 by_cases hg3 : (j : Int) < 0
 ·
  exact (by omega : False).elim
 refine Df 12 hg3 <| On 11 [0, 1, 4, 12, 13, 16] <| Lr 0 (.slice A ts.length cap) hr <| Ose [(0, pt r),(1, nt (j : Int)),(4, pt b1),(20, .bool (decide ((j : Int) ≥ (ts.length : Int))))] <| Vi ((j : Int) ≥ (ts.length : Int)) (fun hc4 => ?_) (fun hc4 => ?_)
 ·
  exact (by omega : False).elim
 refine Vsk <| Vr <| On 3 [1, 4, 24] <| Lr 0 (.slice A ts.length cap) hr <| On 5 [4, 25, 26] ?_
 obtain ⟨b5, o5, L5, T5, rfl, hat5⟩ := SlT.opn hA
 have hb5lt := hat5.blk.lt
 have hob6 := hAr b5 ⟨_, rfl, rfl⟩
 have hob7 := hAlt b5 ⟨_, rfl, rfl⟩
 refine Oi (b := b5) (o := o5) (len := ts.length) (cap := cap) (j := j) (some 27) 67 (.tmp 25) (.tmp 26) 80 18 144 .i64 ?_
 obtain ⟨x8, hx9⟩ := exAt (xs := ts) (i := j)
 refine La (o5 + j * 18) (Trk.cells x8) 18 hat5.blk (At.elem' hat5 (es_at hx9)) (At.len hat5 (es_at hx9)) <| Sg 0 (Trk.cells x8) hb1 (Trk.len _) (Trk.one _) ?_
 intro w10 hb1_13 hk11 hz12
 replace hb1_13 : Blk w10 b1 (Trk.cells x8) 80 := (Blk.eqL (Trk.over _ _) hb1_13)
 have hsz14 := Keep.size hk11
 replace hK0 := Keep.fr hK0 hk11
 refine Ose [(4, pt b1),(5, .bool true)] <| V_ret ?_
 exact leave0 (.tuple #[.agg (Trk.cells x8).toArray, .bool true]) (.inl rfl) (res_agg_tmp (m := 18) rfl rfl rfl (by kernel_rfl) hb1_13 rfl) ⟨by have e9 : trkO ts (j : Int) = some x8 := (by unfold trkO; rw [if_pos (by omega), Int.toNat_natCast]; exact hx9); unfold trkA; rw [e9]; rfl, hK0⟩
theorem rtrack_out (H : Nat → Prop) (r g : Nat) (ts : List Trk) (rs : List Rfm) (i : Int) (w : World) (hR : Rfr H w r g ts rs) (hi : ¬ (0 ≤ i ∧ i < ts.length)) : Calls Tryz.prog 26 #[pt r, nt i] w fun e w' => e = .returned (.tuple #[.agg (trkA ts i).cells.toArray, .bool (trkO ts i).isSome]) ∧ Keep none_ w w' := by
 have hHlt := Rfr.lt hR
 have hrH := Rfr.at_ hR
 have hgH := Rfr.atg hR
 have hrlt := hHlt _ hrH
 have hglt := hHlt _ hgH
 have hin := Rfr.inn hR
 obtain ⟨A, cap, hr, hA, hAo, hrg⟩ := Rfr.parts hR
 have hAlt := SlT.lt hA
 have hAr : ∀ q, inA A q → q ≠ r ∧ q ≠ g ∧ q < w.heap.size := fun q hq => ⟨(hAo q hq).2.1, (hAo q hq).2.2, hAlt q hq⟩
 have hgo : ∀ q, only g q → q ≠ r := fun q hq e => hrg (e.symm.trans hq)
 have hgl : ∀ q, only g q → q < w.heap.size := fun q hq => by rw [show q = g from hq]; exact hglt
 have hHo : ∀ q, H q → 0 ≤ q := fun q _ => Nat.zero_le q
 have htl := hin.tl
 have hrl := hin.rl
 have hK0 := Keep.refl none_ w
 refine enterM Tryz.func26 rfl [pt r, nt i] 29 rfl rfl rfl ?_
 refine Vp [(0, pt r),(1, nt i)] <| Vr <| Alc_ 80 (.agg (Trk.cells Trk.zero).toArray) (Trk.cells Trk.zero) ?_
 intro b1 w1 e1 hb1 k1 z1
 have hsz2 := Keep.size k1
 replace hr := hr.k0 k1
 replace hK0 := hK0.tn k1
 have hb1lt := hb1.lt
 refine On 2 [0, 1, 4] <| Oe <| V_seq <| Vr <| On 7 [0, 1, 4, 12] ?_
 by_cases hg3 : i < 0
 ·
  refine Dt 12 hg3 <| Oen [0, 1, 4, 20] <| Vo <| Vr <| On 1 [4, 21] <| Sg 0 (Trk.cells Trk.zero) hb1 (Trk.len _) (Trk.one _) ?_
  intro w4 hb1_7 hk5 hz6
  replace hb1_7 : Blk w4 b1 (Trk.cells Trk.zero) 80 := (Blk.eqL (Trk.over _ _) hb1_7)
  have hsz8 := Keep.size hk5
  replace hK0 := Keep.fr hK0 hk5
  refine Ose [(4, pt b1),(5, .bool false)] <| Rt ?_
  exact leave0 (.tuple #[.agg (Trk.cells Trk.zero).toArray, .bool false]) (.inl rfl) (res_agg_tmp (m := 18) rfl rfl rfl (by kernel_rfl) hb1_7 rfl) ⟨by have e9 : trkO ts i = none := if_neg hi; unfold trkA; rw [e9]; rfl, hK0⟩
 refine Df 12 hg3 <| On 11 [0, 1, 4, 12, 13, 16] <| Lr 0 (.slice A ts.length cap) hr <| Ose [(0, pt r),(1, nt i),(4, pt b1),(20, .bool (decide (i ≥ (ts.length : Int))))] <| Vi (i ≥ (ts.length : Int)) (fun hc9 => ?_) (fun hc9 => ?_)
 ·
  refine Vr <| On 1 [4, 21] <| Sg 0 (Trk.cells Trk.zero) hb1 (Trk.len _) (Trk.one _) ?_
  intro w10 hb1_13 hk11 hz12
  replace hb1_13 : Blk w10 b1 (Trk.cells Trk.zero) 80 := (Blk.eqL (Trk.over _ _) hb1_13)
  have hsz14 := Keep.size hk11
  replace hK0 := Keep.fr hK0 hk11
  refine Ose [(4, pt b1),(5, .bool false)] <| Rt ?_
  exact leave0 (.tuple #[.agg (Trk.cells Trk.zero).toArray, .bool false]) (.inl rfl) (res_agg_tmp (m := 18) rfl rfl rfl (by kernel_rfl) hb1_13 rfl) ⟨by have e9 : trkO ts i = none := if_neg hi; unfold trkA; rw [e9]; rfl, hK0⟩
 exact (by omega : False).elim
theorem rtrack_spec (H : Nat → Prop) (r g : Nat) (ts : List Trk) (rs : List Rfm) (i : Int) (w : World) (hR : Rfr H w r g ts rs) : Calls Tryz.prog 26 #[pt r, nt i] w fun e w' => e = .returned (.tuple #[.agg (trkA ts i).cells.toArray, .bool (trkO ts i).isSome]) ∧ Keep none_ w w' := by
  by_cases hi : 0 ≤ i ∧ i < ts.length
  · obtain ⟨j, rfl⟩ : ∃ j : Nat, i = j := ⟨i.toNat, by omega⟩
    exact rtrack_in H r g ts rs j w hR (by omega)
  · exact rtrack_out H r g ts rs i w hR hi
theorem ongoing_no (H : Nat → Prop) (r g : Nat) (ts : List Trk) (rs : List Rfm) (ref : Int) (w : World) (hR : Rfr H w r g ts rs) (hx : getR rs ref = none) : Calls Tryz.prog 87 #[pt r, nt ref] w fun e w' => e = .returned (nt (ongE rs ref)) ∧ Keep none_ w w' := by
 have hHlt := Rfr.lt hR
 have hrH := Rfr.at_ hR
 have hgH := Rfr.atg hR
 have hrlt := hHlt _ hrH
 have hglt := hHlt _ hgH
 have hin := Rfr.inn hR
 obtain ⟨A, cap, hr, hA, hAo, hrg⟩ := Rfr.parts hR
 have hAlt := SlT.lt hA
 have hAr : ∀ q, inA A q → q ≠ r ∧ q ≠ g ∧ q < w.heap.size := fun q hq => ⟨(hAo q hq).2.1, (hAo q hq).2.2, hAlt q hq⟩
 have hgo : ∀ q, only g q → q ≠ r := fun q hq e => hrg (e.symm.trans hq)
 have hgl : ∀ q, only g q → q < w.heap.size := fun q hq => by rw [show q = g from hq]; exact hglt
 have hHo : ∀ q, H q → 0 ≤ q := fun q _ => Nat.zero_le q
 have htl := hin.tl
 have hrl := hin.rl
 have hK0 := Keep.refl none_ w
 refine eV ?_
 refine Vr <| On 1 [0, 1] <| Oer <| On 2 [8, 9] <| Kk (rget_spec H r g ts rs ref _ hR) fun w1 hk2 _ => ?_
 replace hK0 := hK0.tn hk2
 refine On 6 [11, 12] <| Alc_ 44 (.agg (Rfm.cells Rfm.zero).toArray) (Rfm.cells Rfm.zero) ?_
 intro b4 w4 e4 hb4 k4 z4
 have hsz5 := Keep.size k4
 replace hK0 := hK0.tn k4
 have hb4lt := hb4.lt
 refine Sg 0 (Rfm.cells (getA rs ref)) hb4 (Rfm.len _) (Rfm.one _) ?_
 intro w6 hb4_9 hk7 hz8
 replace hb4_9 : Blk w6 b4 (Rfm.cells (getA rs ref)) 44 := (Blk.eqL (Rfm.over _ _) hb4_9)
 have hsz10 := Keep.size hk7
 replace hK0 := Keep.fr hK0 hk7
 exact On 9 [5, 6] <| Oe <| V_seq <| V_block <| Vn [5, 13] <| Vq (u := .bool (!((getR rs ref).isSome))) (v := .bool true) 13 (by rw [hx]; rfl) <| Vo <| Vn [4] <| V_ret <| X_ret_block <| X_ret_then <| Xr (nt 4) ⟨by unfold ongE; rw [hx], hK0⟩
theorem ongoing_at (H : Nat → Prop) (r g : Nat) (ts : List Trk) (rs : List Rfm) (ref : Int) (x : Rfm) (w : World) (hR : Rfr H w r g ts rs) (hx : getR rs ref = some x) : Calls Tryz.prog 87 #[pt r, nt ref] w fun e w' => e = .returned (nt (ongE rs ref)) ∧ Keep none_ w w' := by
 have hHlt := Rfr.lt hR
 have hrH := Rfr.at_ hR
 have hgH := Rfr.atg hR
 have hrlt := hHlt _ hrH
 have hglt := hHlt _ hgH
 have hin := Rfr.inn hR
 obtain ⟨A, cap, hr, hA, hAo, hrg⟩ := Rfr.parts hR
 have hAlt := SlT.lt hA
 have hAr : ∀ q, inA A q → q ≠ r ∧ q ≠ g ∧ q < w.heap.size := fun q hq => ⟨(hAo q hq).2.1, (hAo q hq).2.2, hAlt q hq⟩
 have hgo : ∀ q, only g q → q ≠ r := fun q hq e => hrg (e.symm.trans hq)
 have hgl : ∀ q, only g q → q < w.heap.size := fun q hq => by rw [show q = g from hq]; exact hglt
 have hHo : ∀ q, H q → 0 ≤ q := fun q _ => Nat.zero_le q
 have htl := hin.tl
 have hrl := hin.rl
 have hxA : getA rs ref = x := by unfold getA; rw [hx]; rfl
 have hK0 := Keep.refl none_ w
 refine eV ?_
 refine Vr <| On 1 [0, 1] <| Oer <| On 2 [8, 9] <| Kk (rget_spec H r g ts rs ref _ hR) fun w1 hk2 _ => ?_
 replace hK0 := hK0.tn hk2
 refine On 6 [11, 12] <| Alc_ 44 (.agg (Rfm.cells Rfm.zero).toArray) (Rfm.cells Rfm.zero) ?_
 intro b4 w4 e4 hb4 k4 z4
 have hsz5 := Keep.size k4
 replace hK0 := hK0.tn k4
 have hb4lt := hb4.lt
 refine Sg 0 (Rfm.cells (getA rs ref)) hb4 (Rfm.len _) (Rfm.one _) ?_
 intro w6 hb4_9 hk7 hz8
 replace hb4_9 : Blk w6 b4 (Rfm.cells (getA rs ref)) 44 := (Blk.eqL (Rfm.over _ _) hb4_9)
 have hsz10 := Keep.size hk7
 replace hK0 := Keep.fr hK0 hk7
 refine On 9 [5, 6] <| Oe <| V_seq <| V_block <| Vn [5, 13] <| Vq (u := .bool (!((getR rs ref).isSome))) (v := .bool false) 13 (by rw [hx]; rfl) <| Vf <| Vr <| On 1 [17] <| Lr 0 (nt ((getA rs ref).state)) hb4_9 <| Oen [16] <| V_not ((getA rs ref).state = 1) (by kernel_rfl) (fun hc12 => ?_) (fun hc12 => ?_)
 ·
  exact Vn [4] <| V_ret <| X_ret_block <| X_ret_then <| Xr (nt 9) ⟨by unfold ongE; rw [hx]; rw [hxA] at hc12; show _ = Ending.returned (nt (if x.state = 1 then 0 else 9)); rw [if_neg hc12], hK0⟩
 exact V_skip <| X_block <| X_then <| Vn [4] <| Rr (nt 0) ⟨by unfold ongE; rw [hx]; rw [hxA] at hc12; show _ = Ending.returned (nt (if x.state = 1 then 0 else 9)); rw [if_pos hc12], hK0⟩
theorem ongoing_spec (H : Nat → Prop) (r g : Nat) (ts : List Trk) (rs : List Rfm) (ref : Int) (w : World) (hR : Rfr H w r g ts rs) : Calls Tryz.prog 87 #[pt r, nt ref] w fun e w' => e = .returned (nt (ongE rs ref)) ∧ Keep none_ w w' := by
  cases hx : getR rs ref with
  | none => exact ongoing_no H r g ts rs ref w hR hx
  | some x => exact ongoing_at H r g ts rs ref x w hR hx
end Go.Al
namespace Go.Al
open Go Go.RowKit Go.Proofs
section
variable {xs : List Acc} {cs : List Ci} {s : VS} {ts : List Trk} {rs : List Rfm} {who of after ref now : Int}
theorem subE1 (h : (trkO ts of).isSome = false ∨ who < 0 ∨ who ≥ 10 ∨ after < 0 ∨ after > 1000) : subE xs cs s ts rs who of after = 1 := by
  unfold subE
  rw [if_pos (h.imp (fun h => by cases h9 : trkO ts of with
    | none => rfl
    | some _ => rw [h9] at h; cases h) id)]
theorem closeE4 {s : VS} {ref : Int} : closeE s ref 0 = 4 ↔ (pollAt s ref).isSome = false := by
  unfold closeE
  cases pollAt s ref with
  | none => simp
  | some q =>
    simp only [Option.isSome_some, reduceCtorEq, iff_false]
    split
    · decide
    · decide
theorem closeS0 (s : VS) (ref e : Int) : closeS s ref 0 e = s := by
  unfold closeS
  cases hp : pollAt s ref with
  | none => rfl
  | some q =>
    dsimp only
    have : closeE s ref 0 ≠ 0 := by
      unfold closeE; rw [hp]; dsimp only
      split
      · decide
      · decide
    rw [if_neg this]
theorem subEx (h1 : (trkO ts of).isSome = true) (h2 : ¬ (who < 0 ∨ who ≥ 10 ∨ after < 0 ∨ after > 1000)) : subE xs cs s ts rs who of after = if rs.length ≥ 12 then 3 else if (pollAt s rs.length).isSome then 5 else spendsE xs cs who 10 := by
  unfold subE
  rw [if_neg]
  rintro (h | h)
  · simp_all
  · exact h2 h
theorem sub_no {k : Int} (h : subE xs cs s ts rs who of after = k) (hk : k ≠ 0) : subX xs cs s ts rs who of after = xs ∧ subS xs cs s ts rs who of after = s ∧ ∀ sum now, subR xs cs s ts rs who of after sum now = rs := by
  refine ⟨?_, ?_, fun sum now => ?_⟩
  · unfold subX; rw [h, if_neg hk]
  · unfold subS; rw [h, if_neg hk]
  · unfold subR; rw [h, if_neg hk]
theorem sub_go (h : subE xs cs s ts rs who of after = 0) : subX xs cs s ts rs who of after = resX xs cs who 10 ∧ subS xs cs s ts rs who of after = openS s rs.length of ∧ ∀ sum now, subR xs cs s ts rs who of after sum now = rs ++ [newR of sum after now who] := by
  refine ⟨?_, ?_, fun sum now => ?_⟩
  · unfold subX; rw [if_pos h]
  · unfold subS; rw [if_pos h]
  · unfold subR; rw [if_pos h]
theorem trk_some (h : (trkO ts of).isSome = true) : 0 ≤ of ∧ of < ts.length := by
  unfold trkO at h
  split at h
  · assumption
  · cases h
end
set_option maxHeartbeats 1000000 in
theorem submit_spec (H : Nat → Prop) (r g : Nat) (ts : List Trk) (rs : List Rfm) (F : Nat → Prop) (v : Nat) (s : VS) (G : Nat → Prop) (l : Nat) (xs : List Acc) (cs : List Ci) (who of : Int) (sum : Nat → Int) (after now : Int) (w : World) (hR : Rfr H w r g ts rs) (hV : VotT F w v s) (hl : Led G w l xs cs) (hHF : ∀ q, H q → ¬ F q) (hHG : ∀ q, H q → ¬ G q) (hFG : ∀ q, F q → ¬ G q) : Calls Tryz.prog 24 #[pt r, pt l, pt v, nt who, nt of, .agg (hshc sum).toArray, nt after, nt now] w fun e w' => e = .returned (.tuple #[nt (if subE xs cs s ts rs who of after = 0 then (rs.length : Int) else 0), nt (subE xs cs s ts rs who of after)]) ∧ (∃ H' F' G', Rfr H' w' r g ts (subR xs cs s ts rs who of after sum now) ∧ VotT F' w' v (subS xs cs s ts rs who of after) ∧ Led G' w' l (subX xs cs s ts rs who of after) cs ∧ (∀ q, H' q → H q ∨ w.heap.size ≤ q) ∧ (∀ q, F' q → F q ∨ w.heap.size ≤ q) ∧ (∀ q, G' q → G q ∨ w.heap.size ≤ q) ∧ (∀ q, H' q → ¬ F' q) ∧ (∀ q, H' q → ¬ G' q) ∧ (∀ q, F' q → ¬ G' q)) ∧ Keep (fun q => q = g ∨ F q ∨ G q) w w' := by
 have hHlt := Rfr.lt hR
 have hrH := Rfr.at_ hR
 have hgH := Rfr.atg hR
 have hrlt := hHlt _ hrH
 have hglt := hHlt _ hgH
 have hin := Rfr.inn hR
 obtain ⟨A, cap, hr, hA, hAo, hrg⟩ := Rfr.parts hR
 have hAlt := SlT.lt hA
 have hAr : ∀ q, inA A q → q ≠ r ∧ q ≠ g ∧ q < w.heap.size := fun q hq => ⟨(hAo q hq).2.1, (hAo q hq).2.2, hAlt q hq⟩
 have hgo : ∀ q, only g q → q ≠ r ∧ q = g := fun q hq => ⟨fun e => hrg (e.symm.trans hq), hq⟩
 have hgl : ∀ q, only g q → q < w.heap.size := fun q hq => by rw [show q = g from hq]; exact hglt
 have hHo : ∀ q, H q → 0 ≤ q := fun q _ => Nat.zero_le q
 have htl := hin.tl
 have hrl := hin.rl
 have hFlt := VotT.lt hV
 have hvlt := hFlt _ (VotT.at_ hV)
 have hVr : ∀ q, F q → q ≠ r := fun q hq e => hHF r hrH (e ▸ hq)
 have hGlt := Led.lt hl
 have hllt := hGlt _ (Led.at_ hl)
 have hlr : ∀ q, G q → q ≠ r := fun q hq e => hHG r hrH (e ▸ hq)
 have hinv := Led.inv hl
 have hHr : ∀ q, H q → H q ∨ w.heap.size ≤ q := fun _ h => .inl h
 have hFr : ∀ q, F q → F q ∨ w.heap.size ≤ q := fun _ h => .inl h
 have hGr : ∀ q, G q → G q ∨ w.heap.size ≤ q := fun _ h => .inl h
 have hK0 : Keep (fun q => q = g ∨ F q ∨ G q) w w := Keep.refl _ _
 refine eV ?_
 refine Vr <| OI_box 40 (.tmp 5) (.agg (hshc sum).toArray) (hshc sum) (some 13) (by kernel_rfl) (by kernel_rfl) rfl ?_
 intro b1 w1 e1 hb1 k1 z1
 have hsz2 := Keep.size k1
 replace hR := hR.keep k1 nk
 replace hV := hV.keep k1 nk
 replace hl := hl.keep k1 nk
 replace hK0 := hK0.tn k1
 have hb1lt := hb1.lt
 refine On 3 [0, 1, 2, 3, 4, 6, 7, 13] <| Oer <| On 2 [0, 1, 2, 3, 4, 6, 7, 13, 23, 24] <| Kk (rtrack_spec H r g ts rs of _ hR) fun w3 hk4 _ => ?_
 replace hR := hR.keep hk4 nk
 replace hV := hV.keep hk4 nk
 replace hl := hl.keep hk4 nk
 replace hK0 := hK0.tn hk4
 refine On 6 [0, 1, 2, 3, 4, 6, 7, 13, 26, 27] <| Alc_ 80 (.agg (Trk.cells Trk.zero).toArray) (Trk.cells Trk.zero) ?_
 intro b6 w6 e6 hb6 k6 z6
 have hsz7 := Keep.size k6
 replace hr := hr.k0 ((k1.tr hk4).tr k6)
 replace hb1 := hb1.k0 (hk4.tr k6)
 replace hR := hR.keep k6 nk
 replace hV := hV.keep k6 nk
 replace hl := hl.keep k6 nk
 replace hK0 := hK0.tn k6
 have hb6lt := hb6.lt
 refine Sg 0 (Trk.cells (trkA ts of)) hb6 (Trk.len _) (Trk.one _) ?_
 intro w8 hb6_11 hk9 hz10
 replace hb6_11 : Blk w8 b6 (Trk.cells (trkA ts of)) 80 := (Blk.eqL (Trk.over _ _) hb6_11)
 have hsz12 := Keep.size hk9
 replace hr := hr.k1 hk9
 replace hb1 := hb1.k1 hk9
 replace hR := hR.keep hk9 (fun q hq hs => by have hs : q = b6 := hs; have g0 := hHo q hq; have g1 := hHlt q hq; omega)
 replace hV := hV.keep hk9 (fun q hq hs => by have hs : q = b6 := hs; have g0 := hVr q hq; have g1 := hFlt q hq; omega)
 replace hl := hl.keep hk9 (fun q hq hs => by have hs : q = b6 := hs; have g0 := hlr q hq; have g1 := hGlt q hq; omega)
 replace hK0 := Keep.fr hK0 hk9
 refine On 9 [0, 1, 2, 3, 4, 6, 7, 13, 19] <| Oe <| V_seq <| V_block <| Vr <| Os 3 [(0, pt r),(1, pt l),(2, pt v),(3, nt who),(4, nt of),(6, nt after),(7, nt now),(13, pt b1),(31, .bool (!((trkO ts of).isSome)))] ?_
 cases hg13 : (!((trkO ts of).isSome))
 ·
  refine OI_eq [(0, pt r),(1, pt l),(2, pt v),(3, nt who),(4, nt of),(6, nt after),(7, nt now),(13, pt b1),(31, .bool false)] (by first | rfl | rw [hg13]) <| On 15 [0, 1, 2, 3, 4, 6, 7, 13, 43] ?_
  by_cases hg14 : who < 0
  ·
   refine Dt 43 hg14 <| Oen [0, 1, 2, 3, 4, 6, 7, 13, 28] <| Vo <| Vn [16, 17] <| V_ret <| X_ret_block <| X_ret_then ?_
   have hE15 : subE xs cs s ts rs who of after = 1 := subE1 (.inr <| .inl hg14)
   obtain ⟨h115, h215, h315⟩ := sub_no hE15 (by decide)
   exact Xr (.tuple #[nt 0, nt 1]) ⟨by rw [hE15]; rfl, ⟨H, F, G, (by rw [h315]; exact hR),(by rw [h215]; exact hV),(by rw [h115]; exact hl), hHr, hFr, hGr, hHF, hHG, hFG⟩, hK0⟩
  refine Df 43 hg14 <| On 19 [0, 1, 2, 3, 4, 6, 7, 13, 47] ?_
  by_cases hg16 : who ≥ 10
  ·
   refine Dt 47 hg16 <| Oen [0, 1, 2, 3, 4, 6, 7, 13, 28] <| Vo <| Vn [16, 17] <| V_ret <| X_ret_block <| X_ret_then ?_
   have hE17 : subE xs cs s ts rs who of after = 1 := subE1 (.inr <| .inr <| .inl hg16)
   obtain ⟨h117, h217, h317⟩ := sub_no hE17 (by decide)
   exact Xr (.tuple #[nt 0, nt 1]) ⟨by rw [hE17]; rfl, ⟨H, F, G, (by rw [h317]; exact hR),(by rw [h217]; exact hV),(by rw [h117]; exact hl), hHr, hFr, hGr, hHF, hHG, hFG⟩, hK0⟩
  refine Df 47 hg16 <| On 23 [0, 1, 2, 3, 4, 6, 7, 13, 51] ?_
  by_cases hg18 : after < 0
  ·
   refine Dt 51 hg18 <| Oen [0, 1, 2, 3, 4, 6, 7, 13, 28] <| Vo <| Vn [16, 17] <| V_ret <| X_ret_block <| X_ret_then ?_
   have hE19 : subE xs cs s ts rs who of after = 1 := subE1 (.inr <| .inr <| .inr <| .inl hg18)
   obtain ⟨h119, h219, h319⟩ := sub_no hE19 (by decide)
   exact Xr (.tuple #[nt 0, nt 1]) ⟨by rw [hE19]; rfl, ⟨H, F, G, (by rw [h319]; exact hR),(by rw [h219]; exact hV),(by rw [h119]; exact hl), hHr, hFr, hGr, hHF, hHG, hFG⟩, hK0⟩
  refine Df 51 hg18 <| Oen [0, 1, 2, 3, 4, 6, 7, 13, 28] <| Vi (after > 1000) (fun hc20 => ?_) (fun hc20 => ?_)
  ·
   refine Vn [16, 17] <| V_ret <| X_ret_block <| X_ret_then ?_
   have hE21 : subE xs cs s ts rs who of after = 1 := subE1 (.inr <| .inr <| .inr <| .inr <| hc20)
   obtain ⟨h121, h221, h321⟩ := sub_no hE21 (by decide)
   exact Xr (.tuple #[nt 0, nt 1]) ⟨by rw [hE21]; rfl, ⟨H, F, G, (by rw [h321]; exact hR),(by rw [h221]; exact hV),(by rw [h121]; exact hl), hHr, hFr, hGr, hHF, hHG, hFG⟩, hK0⟩
  refine Vr <| On 3 [0, 1, 2, 3, 4, 6, 7, 13, 58] <| Lr 1 (pt g) hr <| Kq (qlen_spec H r g ts rs _ hR) <| Oen [0, 1, 2, 3, 4, 6, 7, 13, 55] <| Vi ((rs.length : Int) ≥ 12) (fun hc25 => ?_) (fun hc25 => ?_)
  ·
   refine Vn [16, 17] <| V_ret <| X_ret_block <| X_ret_then ?_
   have hE26 : subE xs cs s ts rs who of after = 3 := by
     rw [subEx (who := who) (of := of) (after := after) (ts := ts) (by simpa using hg13) (by omega)]
     rw [if_pos (by omega)]
   obtain ⟨h126, h226, h326⟩ := sub_no hE26 (by decide)
   exact Xr (.tuple #[nt 0, nt 3]) ⟨by rw [hE26]; rfl, ⟨H, F, G, (by rw [h326]; exact hR),(by rw [h226]; exact hV),(by rw [h126]; exact hl), hHr, hFr, hGr, hHF, hHG, hFG⟩, hK0⟩
  refine V_skip <| X_block <| X_then <| Vr <| On 3 [0, 1, 2, 3, 4, 6, 7, 13, 64] <| Lr 1 (pt g) hr <| Kq (qlen_spec H r g ts rs _ hR) <| On 6 [0, 1, 2, 3, 4, 6, 7, 13, 20] <| Oe <| V_seq <| Vr <| On 3 [0, 1, 2, 3, 4, 6, 7, 13, 20, 67, 68, 69] <| Kg (close_specT F v s (rs.length : Int) 0 now _ hV) ?_
  rintro _ w32 ⟨rfl, ⟨F34, ho35, hfr36⟩, hk33⟩
  refine ⟨_, rfl, ?_⟩
  have hsz37 := Keep.size hk33
  replace hr := hr.keep hk33 (fun hs => by have h1 := hVr _ hs; have h2 := hFlt _ hs; omega)
  replace hb1 := hb1.keep hk33 (fun hs => by have h1 := hVr _ hs; have h2 := hFlt _ hs; omega)
  replace hR := hR.keep hk33 (fun q hq hs => hHF q hq hs)
  replace hl := hl.keep hk33 (fun q hq hs => hFG q hs hq)
  replace hK0 := Keep.fresh hK0 hk33 (fun i hi hs => by rcases hFr i hs with h | h; exact .inr <| .inl h; (exfalso; omega))
  have own39 : ∀ q, F34 q → q ≠ r ∧ q ≠ r ∧ q ≠ b1 ∧ q ≠ b6 := fun q hq => by rcases hfr36 q hq with h | h; (have h1 := hVr q h; have h2 := hFlt q h; omega); omega
  have lt38 := VotT.lt ho35
  have rel40 : ∀ q, F34 q → F q ∨ w.heap.size ≤ q := fun q hq => by rcases hfr36 q hq with h | h; exact hFr q h; exact .inr (by omega)
  have dis41 : ∀ q, F34 q → ¬ inA A q := fun q h1 h2 => by rcases hfr36 q h1 with h | h; exact (fun q h1 h2 => hHF q (hAo q h2).1 h1) q h h2; (have h4 := hAlt q h2; omega)
  have dis42 : ∀ q, F34 q → ¬ H q := fun q h1 h2 => by rcases hfr36 q h1 with h | h; exact hHF q h2 h; (have h4 := hHlt q h2; omega)
  have dis43 : ∀ q, F34 q → ¬ G q := fun q h1 h2 => by rcases hfr36 q h1 with h | h; exact hFG q h h2; (have h4 := hGlt q h2; omega)
  rw [closeS0] at ho35
  refine Oen [0, 1, 2, 3, 4, 6, 7, 13, 20, 71] <| V_not (closeE s (rs.length : Int) 0 = 4) (by kernel_rfl) (fun hc44 => ?_) (fun hc44 => ?_)
  ·
   refine Vs [(16, nt 0),(17, nt 5)] <| Rt ?_
   have hE45 : subE xs cs s ts rs who of after = 5 := by
     rw [subEx (who := who) (of := of) (after := after) (ts := ts) (by simpa using hg13) (by omega)]
     rw [if_neg (by omega)]
     exact if_pos (by cases h9 : (pollAt s rs.length).isSome; exact absurd (closeE4.2 h9) hc44; rfl)
   obtain ⟨h145, h245, h345⟩ := sub_no hE45 (by decide)
   exact Xr (.tuple #[nt 0, nt 5]) ⟨by rw [hE45]; rfl, ⟨H, F34, G, (by rw [h345]; exact hR),(by rw [h245]; exact ho35),(by rw [h145]; exact hl), hHr, rel40, hGr, (fun q h1 h2 => dis42 q h2 h1), hHG, dis43⟩, hK0⟩
  refine Vsk <| V_seq <| Vr <| On 2 [0, 2, 3, 4, 6, 7, 13, 20, 72, 73] <| Kg (reserve_spec G l xs cs who 10 _ hl) ?_
  rintro _ w48 ⟨rfl, ⟨F50, ho51, hfr52⟩, hk49⟩
  refine ⟨_, rfl, ?_⟩
  have hsz53 := Keep.size hk49
  replace hr := hr.keep hk49 (fun hs => by have h1 := hlr _ hs; have h2 := hGlt _ hs; omega)
  replace hb1 := hb1.keep hk49 (fun hs => by have h1 := hlr _ hs; have h2 := hGlt _ hs; omega)
  replace hR := hR.keep hk49 (fun q hq hs => hHG q hq hs)
  replace hK0 := Keep.fresh hK0 hk49 (fun i hi hs => by rcases hGr i hs with h | h; exact .inr <| .inr <| h; (exfalso; omega))
  replace ho35 := ho35.keep hk49 (fun q hq hs => dis43 q hq hs)
  have own55 : ∀ q, F50 q → q ≠ r ∧ q ≠ r ∧ q ≠ b1 ∧ q ≠ b6 := fun q hq => by rcases hfr52 q hq with h | h; (have h1 := hlr q h; have h2 := hGlt q h; omega); omega
  have lt54 := Led.lt ho51
  have rel56 : ∀ q, F50 q → G q ∨ w.heap.size ≤ q := fun q hq => by rcases hfr52 q hq with h | h; exact hGr q h; exact .inr (by omega)
  have dis57 : ∀ q, F50 q → ¬ inA A q := fun q h1 h2 => by rcases hfr52 q h1 with h | h; exact (fun q h1 h2 => hHG q (hAo q h2).1 h1) q h h2; (have h4 := hAlt q h2; omega)
  have dis58 : ∀ q, F50 q → ¬ H q := fun q h1 h2 => by rcases hfr52 q h1 with h | h; exact hHG q h2 h; (have h4 := hHlt q h2; omega)
  have dis59 : ∀ q, F50 q → ¬ F34 q := fun q h1 h2 => by rcases hfr52 q h1 with h | h; exact dis43 q h2 h; (have h4 := lt38 q h2; omega)
  refine On 4 [0, 2, 3, 4, 6, 7, 13, 20, 21] <| Oer <| Oen [0, 2, 3, 4, 6, 7, 13, 20, 21, 76] <| V_not (spendsE xs cs who 10 = 0) (by kernel_rfl) (fun hc60 => ?_) (fun hc60 => ?_)
  ·
   refine Vn [16, 17] <| Rt ?_
   have hE61 : subE xs cs s ts rs who of after = (spendsE xs cs who 10) := by
     rw [subEx (who := who) (of := of) (after := after) (ts := ts) (by simpa using hg13) (by omega)]
     rw [if_neg (by omega)]
     rw [if_neg (by rw [closeE4.1 hc44]; decide)]
   obtain ⟨h161, h261, h361⟩ := sub_no hE61 (hc60)
   exact Xr (.tuple #[nt 0, nt (spendsE xs cs who 10)]) ⟨by rw [hE61]; rw [if_neg (hc60)], ⟨H, F34, F50, (by rw [h361]; exact hR),(by rw [h261]; exact ho35),(by rw [show subX xs cs s ts rs who of after = resX xs cs who 10 from h161.trans (by unfold resX; rw [if_neg (hc60)])]; exact ho51), hHr, rel40, rel56, (fun q h1 h2 => dis42 q h2 h1),(fun q h1 h2 => dis58 q h2 h1),(fun q h1 h2 => dis59 q h2 h1)⟩, hK0⟩
  refine Vsk <| Vr <| On 3 [0, 3, 4, 6, 7, 13, 20, 78, 79, 80] <| Kg (open_specT F34 v s (rs.length : Int) of _ ho35) ?_
  rintro _ w64 ⟨rfl, ⟨F66, ho67, hfr68⟩, hk65⟩
  refine ⟨_, rfl, ?_⟩
  have hsz69 := Keep.size hk65
  replace hr := hr.keep hk65 (fun hs => by have h1 := own39 _ hs; have h2 := lt38 _ hs; omega)
  replace hb1 := hb1.keep hk65 (fun hs => by have h1 := own39 _ hs; have h2 := lt38 _ hs; omega)
  replace hR := hR.keep hk65 (fun q hq hs => dis42 q hs hq)
  replace hK0 := Keep.fresh hK0 hk65 (fun i hi hs => by rcases rel40 i hs with h | h; exact .inr <| .inl h; (exfalso; omega))
  replace ho51 := ho51.keep hk65 (fun q hq hs => dis59 q hq hs)
  have own71 : ∀ q, F66 q → q ≠ r ∧ q ≠ r ∧ q ≠ b1 ∧ q ≠ b6 := fun q hq => by rcases hfr68 q hq with h | h; (have h1 := own39 q h; have h2 := lt38 q h; omega); omega
  have lt70 := VotT.lt ho67
  have rel72 : ∀ q, F66 q → F q ∨ w.heap.size ≤ q := fun q hq => by rcases hfr68 q hq with h | h; exact rel40 q h; exact .inr (by omega)
  have dis73 : ∀ q, F66 q → ¬ inA A q := fun q h1 h2 => by rcases hfr68 q h1 with h | h; exact dis41 q h h2; (have h4 := hAlt q h2; omega)
  have dis74 : ∀ q, F66 q → ¬ H q := fun q h1 h2 => by rcases hfr68 q h1 with h | h; exact dis42 q h h2; (have h4 := hHlt q h2; omega)
  have dis75 : ∀ q, F66 q → ¬ F50 q := fun q h1 h2 => by rcases hfr68 q h1 with h | h; exact dis59 q h2 h; (have h4 := lt54 q h2; omega)
  refine Oe <| V_seq <| Vd1 (acts [11]) (fun q => q = g) [0, 1, 2, 3, 4, 5, 6, 7, 8, 9, 10, 11] fun w77 hk76 he78 K81 _ => ?_
  replace hr := hr.k0 hk76
  replace hb1 := hb1.k0 hk76
  replace hR := hR.keep hk76 nk
  replace hK0 := hK0.tn hk76
  replace ho51 := ho51.keep hk76 nk
  replace ho67 := ho67.keep hk76 nk
  have qhr := hr
  have qhb1 := hb1
  refine Gn [3, 4, 5, 6, 7, 8, 9, 10, 11] [3, 4, 6, 7, 13, 20, 84] <| Mc 1 (pt g) qhr (by show ¬ (r = g); omega) rfl <| Gn [6, 7, 8, 9, 10, 11] [3, 6, 7, 13, 20, 85, 86, 87] <| Ma 0 (hshc sum) 32 qhb1 (by show ¬ (b1 = g); omega) (take_all (hshc_len _)) (hshc_len _) <| Gn [11] [20, 85, 86, 92] <| GI_final 11 (by kernel_rfl) (by kernel_rfl) <| Kg (rnew_spec H r g ts rs (newR of sum after now who) _ hR (by omega) (show 0 ≤ of ∧ of < (ts.length : Int) from trk_some (by simpa using hg13))) ?_
  rintro _ w84 ⟨rfl, ⟨H86, hR87, hfr88⟩, hk85⟩
  refine ⟨_, rfl, ?_⟩
  have hsz89 := Keep.size hk85
  replace hK0 := Keep.fresh hK0 hk85 (by intro i hi hs; first | exact hs | (exfalso; have h1 := hgo i hs; have h2 := hgl i hs; omega) | (have h1 := hgo i hs; have h2 := hgl i hs; show _ ∨ _; omega))
  replace ho51 := ho51.keep hk85 (fun q hq hs => (fun q h1 h2 => (fun q h1 h2 => dis58 q h2 h1) q (by rw [show q = g from h1]; exact hgH) h2) q hs hq)
  replace ho67 := ho67.keep hk85 (fun q hq hs => (fun q h1 h2 => (fun q h1 h2 => dis74 q h2 h1) q (by rw [show q = g from h1]; exact hgH) h2) q hs hq)
  have own91 : ∀ q, H86 q → 0 ≤ q ∧ q ≠ b1 ∧ q ≠ b6 := fun q hq => by rcases hfr88 q hq with h | h; (have h1 := hHo q h; have h2 := hHlt q h; omega); omega
  have lt90 := Rfr.lt hR87
  have rel92 : ∀ q, H86 q → H q ∨ w.heap.size ≤ q := fun q hq => by rcases hfr88 q hq with h | h; exact hHr q h; exact .inr (by omega)
  have dis93 : ∀ q, H86 q → ¬ F50 q := fun q h1 h2 => by rcases hfr88 q h1 with h | h; exact dis58 q h2 h; (have h4 := lt54 q h2; omega)
  have dis94 : ∀ q, H86 q → ¬ F66 q := fun q h1 h2 => by rcases hfr88 q h1 with h | h; exact dis74 q h2 h; (have h4 := lt70 q h2; omega)
  refine Oer <| Ose [(16, nt (rs.length : Int)),(17, nt 0)] <| V_ret ?_
  have hE95 : subE xs cs s ts rs who of after = 0 := by
    rw [subEx (who := who) (of := of) (after := after) (ts := ts) (by simpa using hg13) (by omega)]
    rw [if_neg (by omega)]
    rw [if_neg (by rw [closeE4.1 hc44]; decide)]
    exact hc60
  obtain ⟨h195, h295, h395⟩ := sub_go hE95
  exact Xr (.tuple #[nt (rs.length : Int), nt 0]) ⟨by rw [hE95]; rfl, ⟨H86, F66, F50, (by rw [h395]; exact hR87),(by rw [h295]; exact ho67),(by rw [h195]; exact ho51), rel92, rel72, rel56, dis94, dis93, dis75⟩, hK0⟩
 refine OI_eq [(0, pt r),(1, pt l),(2, pt v),(3, nt who),(4, nt of),(6, nt after),(7, nt now),(13, pt b1),(31, .bool true)] (by first | rfl | rw [hg13]) <| Oen [0, 1, 2, 3, 4, 6, 7, 13, 28] <| Vo <| Vn [16, 17] <| V_ret <| X_ret_block <| X_ret_then ?_
 have hE96 : subE xs cs s ts rs who of after = 1 := subE1 (.inl (by simpa using hg13))
 obtain ⟨h196, h296, h396⟩ := sub_no hE96 (by decide)
 exact Xr (.tuple #[nt 0, nt 1]) ⟨by rw [hE96]; rfl, ⟨H, F, G, (by rw [h396]; exact hR),(by rw [h296]; exact hV),(by rw [h196]; exact hl), hHr, hFr, hGr, hHF, hHG, hFG⟩, hK0⟩
end Go.Al
namespace Go.Al
open Go Go.RowKit Go.Proofs
section
variable {xs : List Acc} {cs : List Ci} {s : VS} {ts : List Trk} {rs : List Rfm} {who of after ref now : Int}
theorem getA_at (hin : RfIn ts rs) (h : getR rs ref = some (getA rs ref)) : (0 ≤ ref ∧ ref < rs.length) ∧ (0 ≤ (getA rs ref).track ∧ (getA rs ref).track < ts.length) ∧ rs[ref.toNat]? = some (getA rs ref) := by
  obtain ⟨h1, h2, h3, _⟩ := getA_in hin h
  exact ⟨h1, h2, h3⟩
end
end Go.Al
namespace Go.Al
open Go Go.RowKit Go.Proofs
section
variable {xs : List Acc} {cs : List Ci} {s : VS} {ts : List Trk} {rs : List Rfm} {who of after ref now st : Int}
theorem endR_at (h : getR rs ref = some (getA rs ref)) : getR (endR s rs ref st now) ref = some (endY s (getA rs ref) ref st now) ∧ getA (endR s rs ref st now) ref = endY s (getA rs ref) ref st now ∧ (endR s rs ref st now).length = rs.length := by
  have e1 : getR (endR s rs ref st now) ref = some (endY s (getA rs ref) ref st now) := by
    unfold getR at h
    split at h
    · rename_i hr
      unfold getR endR
      rw [List.length_set, if_pos hr, List.getElem?_set_self (by omega)]
    · cases h
  exact ⟨e1, by unfold getA; rw [e1]; unfold getA at *; rfl, by unfold endR; rw [List.length_set]⟩
theorem ong_some (h : ongE rs ref = 0) : getR rs ref = some (getA rs ref) := by
  unfold ongE at h
  cases hx : getR rs ref with
  | none => rw [hx] at h; cases h
  | some x => unfold getA; rw [hx]; rfl
theorem can_no {k : Int} (h : ongE rs ref = k) (hk : k ≠ 0) : canR s rs ref now = rs ∧ canS s rs ref now = s ∧ canL rs ref = [] ∧ kilX xs ts rs ref = xs ∧ kilS s rs ref now = s ∧ kilR s rs ref now = rs ∧ kilL xs ts rs ref = [] := by
  unfold canR canS canL kilX kilS kilR kilL
  simp only [h, if_neg hk, and_self]
theorem can_go (h : ongE rs ref = 0) : canR s rs ref now = endR s rs ref 5 now ∧ canS s rs ref now = closeS s ref 5 now ∧ canL rs ref = [Evt.mk 1 ref 5] := by
  unfold canR canS canL
  simp only [h, if_true, and_self]
theorem kil_go (h : ongE rs ref = 0) : kilX xs ts rs ref = kilX2 (kilX1 xs (getA rs ref)) ts (getA rs ref) ∧ kilS s rs ref now = closeS s ref 6 now ∧ kilR s rs ref now = rs.set ref.toNat { endY s (getA rs ref) ref 6 now with put := false, backer := -1 } ∧ kilL xs ts rs ref = [Evt.mk 1 ref 6] ++ kilL1 xs (getA rs ref) ++ kilL2 (kilX1 xs (getA rs ref)) ts (getA rs ref) := by
  unfold kilX kilS kilR kilL
  simp only [h, if_true, and_self]
end
set_option maxHeartbeats 1000000 in
theorem ends_spec (H : Nat → Prop) (r g : Nat) (ts : List Trk) (rs : List Rfm) (F : Nat → Prop) (v : Nat) (s : VS) (ref st now : Int) (w : World) (hR : Rfr H w r g ts rs) (hV : VotT F w v s) (hHF : ∀ q, H q → ¬ F q) (hx : getR rs ref = some (getA rs ref)) : Calls Tryz.prog 88 #[pt r, pt v, nt ref, nt st, nt now] w fun e w' => e = .returned (.agg (Evt.mk 1 ref st).cells.toArray) ∧ (∃ H' F', Rfr H' w' r g ts (endR s rs ref st now) ∧ VotT F' w' v (closeS s ref st now) ∧ (∀ q, H' q → H q ∨ w.heap.size ≤ q) ∧ (∀ q, F' q → F q ∨ w.heap.size ≤ q) ∧ (∀ q, H' q → ¬ F' q)) ∧ Keep (fun q => q = g ∨ F q) w w' := by
 have hHlt := Rfr.lt hR
 have hrH := Rfr.at_ hR
 have hgH := Rfr.atg hR
 have hrlt := hHlt _ hrH
 have hglt := hHlt _ hgH
 have hin := Rfr.inn hR
 obtain ⟨A, cap, hr, hA, hAo, hrg⟩ := Rfr.parts hR
 have hAlt := SlT.lt hA
 have hAr : ∀ q, inA A q → q ≠ r ∧ q ≠ g ∧ q < w.heap.size := fun q hq => ⟨(hAo q hq).2.1, (hAo q hq).2.2, hAlt q hq⟩
 have hgo : ∀ q, only g q → q ≠ r ∧ q = g := fun q hq => ⟨fun e => hrg (e.symm.trans hq), hq⟩
 have hgl : ∀ q, only g q → q < w.heap.size := fun q hq => by rw [show q = g from hq]; exact hglt
 have hHo : ∀ q, H q → 0 ≤ q := fun q _ => Nat.zero_le q
 have htl := hin.tl
 have hrl := hin.rl
 have hFlt := VotT.lt hV
 have hvlt := hFlt _ (VotT.at_ hV)
 have hVr : ∀ q, F q → q ≠ r := fun q hq e => hHF r hrH (e ▸ hq)
 have hHr : ∀ q, H q → H q ∨ w.heap.size ≤ q := fun _ h => .inl h
 have hFr : ∀ q, F q → F q ∨ w.heap.size ≤ q := fun _ h => .inl h
 obtain ⟨href, htr, hrat⟩ := getA_at hin hx
 obtain ⟨jt, hjt, hjl, htk, htm⟩ := trkA_at htr
 have hokt := hin.tok _ htm
 have hdep : 0 ≤ (trkA ts (getA rs ref).track).deposit ∧ (trkA ts (getA rs ref).track).deposit ≤ 1073741824 := hokt.2.1
 have hK0 : Keep (fun q => q = g ∨ F q) w w := Keep.refl _ _
 refine enterM Tryz.func88 rfl [pt r, pt v, nt ref, nt st, nt now] 42 rfl rfl rfl ?_
 refine Vp [(0, pt r),(1, pt v),(2, nt ref),(3, nt st),(4, nt now)] <| Vr <| Alc_ 52 (.agg #[nt 0, nt 0, nt 0]) [nt 0, nt 0, nt 0] ?_
 intro b1 w1 e1 hb1 k1 z1
 have hsz2 := Keep.size k1
 replace hR := hR.keep k1 nk
 replace hV := hV.keep k1 nk
 replace hK0 := hK0.tn k1
 have hb1lt := hb1.lt
 refine Oer <| On 2 [0, 1, 2, 3, 4, 10, 14, 15] <| Kk (rget_spec H r g ts rs ref _ hR) fun w3 hk4 _ => ?_
 replace hR := hR.keep hk4 nk
 replace hV := hV.keep hk4 nk
 replace hK0 := hK0.tn hk4
 refine On 6 [0, 1, 2, 3, 4, 10, 17, 18] <| Alc_ 44 (.agg (Rfm.cells Rfm.zero).toArray) (Rfm.cells Rfm.zero) ?_
 intro b6 w6 e6 hb6 k6 z6
 have hsz7 := Keep.size k6
 replace hr := hr.k0 ((k1.tr hk4).tr k6)
 replace hb1 := hb1.k0 (hk4.tr k6)
 replace hR := hR.keep k6 nk
 replace hV := hV.keep k6 nk
 replace hK0 := hK0.tn k6
 have hb6lt := hb6.lt
 refine Sg 0 (Rfm.cells (getA rs ref)) hb6 (Rfm.len _) (Rfm.one _) ?_
 intro w8 hb6_11 hk9 hz10
 replace hb6_11 : Blk w8 b6 (Rfm.cells (getA rs ref)) 44 := (Blk.eqL (Rfm.over _ _) hb6_11)
 have hsz12 := Keep.size hk9
 replace hr := hr.k1 hk9
 replace hb1 := hb1.k1 hk9
 replace hR := hR.keep hk9 (fun q hq hs => by have hs : q = b6 := hs; have g0 := hHo q hq; have g1 := hHlt q hq; omega)
 replace hV := hV.keep hk9 (fun q hq hs => by have hs : q = b6 := hs; have g0 := hVr q hq; have g1 := hFlt q hq; omega)
 replace hK0 := Keep.fr hK0 hk9
 refine On 9 [0, 1, 2, 3, 4, 10, 11] <| Oer <| On 4 [0, 1, 2, 3, 4, 10, 11, 19, 20, 21, 22] <| Kk (tally_spec F v s ref _ (hV).1) fun w13 hk14 _ => ?_
 replace hr := hr.k0 hk14
 replace hb1 := hb1.k0 hk14
 replace hb6_11 := hb6_11.k0 hk14
 replace hR := hR.keep hk14 nk
 replace hV := hV.keep hk14 nk
 replace hK0 := hK0.tn hk14
 refine On 6 [0, 1, 2, 3, 4, 10, 11, 19, 20, 23, 24] <| St_ 0 (nt st) hb6_11 ?_
 intro w16 hb6_19 hk17 hz18
 replace hb6_19 : Blk w16 b6 (Rfm.cells { (getA rs ref) with state := st }) 44 := (Blk.eqL (by kernel_rfl) hb6_19)
 have hsz20 := Keep.size hk17
 replace hr := hr.k1 hk17
 replace hb1 := hb1.k1 hk17
 replace hR := hR.keep hk17 (fun q hq hs => by have hs : q = b6 := hs; have g0 := hHo q hq; have g1 := hHlt q hq; omega)
 replace hV := hV.keep hk17 (fun q hq hs => by have hs : q = b6 := hs; have g0 := hVr q hq; have g1 := hFlt q hq; omega)
 replace hK0 := Keep.fr hK0 hk17
 refine On 8 [0, 1, 2, 3, 4, 10, 11, 20, 23, 25] <| St_ 41 (nt now) hb6_19 ?_
 intro w21 hb6_24 hk22 hz23
 replace hb6_24 : Blk w21 b6 (Rfm.cells { (getA rs ref) with state := st, stop := now }) 44 := (Blk.eqL (by kernel_rfl) hb6_24)
 have hsz25 := Keep.size hk22
 replace hr := hr.k1 hk22
 replace hb1 := hb1.k1 hk22
 replace hR := hR.keep hk22 (fun q hq hs => by have hs : q = b6 := hs; have g0 := hHo q hq; have g1 := hHlt q hq; omega)
 replace hV := hV.keep hk22 (fun q hq hs => by have hs : q = b6 := hs; have g0 := hVr q hq; have g1 := hFlt q hq; omega)
 replace hK0 := Keep.fr hK0 hk22
 refine On 10 [0, 1, 2, 3, 4, 10, 11, 23, 26] <| Sg 42 (Tly.cells (tallyT s ref)) hb6_24 (Tly.len _) (Tly.one _) ?_
 intro w26 hb6_29 hk27 hz28
 replace hb6_29 : Blk w26 b6 (Rfm.cells { (getA rs ref) with state := st, stop := now, t := (tallyT s ref) }) 44 := (Blk.eqL (by kernel_rfl) hb6_29)
 have hsz30 := Keep.size hk27
 replace hr := hr.k1 hk27
 replace hb1 := hb1.k1 hk27
 replace hR := hR.keep hk27 (fun q hq hs => by have hs : q = b6 := hs; have g0 := hHo q hq; have g1 := hHlt q hq; omega)
 replace hV := hV.keep hk27 (fun q hq hs => by have hs : q = b6 := hs; have g0 := hVr q hq; have g1 := hFlt q hq; omega)
 replace hK0 := Keep.fr hK0 hk27
 refine Oe <| V_seq <| V_draws (acts [6]) none_ [[0, 1, 2, 3, 4, 5, 6]] (by kernel_rfl) (by repeat first | exact (by first | exact sure_postM | exact sure_rQ2 | exact sure_no) | refine sure_then ?_ | refine sure_block ?_ | refine sure_join ?_) (by kernel_rfl) ?_
 intro w32 hk31 he33 L hL34
 have hsz35 := Keep.size hk31
 replace hr := hr.k0 hk31
 replace hb1 := hb1.k0 hk31
 replace hb6_29 := hb6_29.k0 hk31
 replace hR := hR.keep hk31 nk
 replace hV := hV.keep hk31 nk
 replace hK0 := hK0.tn hk31
 have qhr := hr
 have qhb6_29 := hb6_29
 have K36 : Keep none_ w32 w32 := Keep.refl _ _
 obtain rfl := List.mem_singleton.1 hL34
 refine Gn [3, 4, 5, 6] [1, 2, 3, 4, 10, 11, 29] <| Mr 1 (pt g) qhr <| Gn [5, 6] [1, 2, 3, 4, 10, 11, 30, 31] <| Ma 0 (Rfm.cells { (getA rs ref) with state := st, stop := now, t := (tallyT s ref) }) 45 qhb6_29 id (take_all (Rfm.len _)) (Rfm.len _) <| GI_final 6 (by kernel_rfl) (by kernel_rfl) <| Kg (rset_spec H r g ts rs ref ({ (getA rs ref) with state := st, stop := now, t := (tallyT s ref) }) _ hR href htr) ?_
 rintro _ w39 ⟨rfl, ⟨H41, hR42, hfr43⟩, hk40⟩
 refine ⟨_, rfl, ?_⟩
 have hsz44 := Keep.size hk40
 replace hb1 := hb1.keep hk40 (fun hs => by have h1 := hgo _ hs; have h2 := hgl _ hs; omega)
 replace hV := hV.keep hk40 (fun q hq hs => (fun q h1 h2 => hHF q (by rw [show q = g from h1]; exact hgH) h2) q hs hq)
 replace hK0 := Keep.fresh hK0 hk40 (by intro i hi hs; first | exact hs | (exfalso; have h1 := hgo i hs; have h2 := hgl i hs; omega) | (have h1 := hgo i hs; have h2 := hgl i hs; show _ ∨ _; omega))
 have own46 : ∀ q, H41 q → 0 ≤ q ∧ q ≠ b1 ∧ q ≠ b6 := fun q hq => by rcases hfr43 q hq with h | h; (have h1 := hHo q h; have h2 := hHlt q h; omega); omega
 have lt45 := Rfr.lt hR42
 have rel47 : ∀ q, H41 q → H q ∨ w.heap.size ≤ q := fun q hq => by rcases hfr43 q hq with h | h; exact hHr q h; exact .inr (by omega)
 have dis48 : ∀ q, H41 q → ¬ F q := fun q h1 h2 => by rcases hfr43 q h1 with h | h; exact hHF q h h2; (have h4 := hFlt q h2; omega)
 refine Oer <| On 4 [2, 3, 10, 34, 35, 36, 37] <| Kg (close_specT F v s ref st now _ hV) ?_
 rintro _ w51 ⟨rfl, ⟨F53, ho54, hfr55⟩, hk52⟩
 refine ⟨_, rfl, ?_⟩
 have hsz56 := Keep.size hk52
 replace hb1 := hb1.keep hk52 (fun hs => by have h1 := hVr _ hs; have h2 := hFlt _ hs; omega)
 replace hK0 := Keep.fresh hK0 hk52 (fun i hi hs => by rcases hFr i hs with h | h; exact .inr <| h; (exfalso; omega))
 replace hR42 := hR42.keep hk52 (fun q hq hs => dis48 q hq hs)
 have own58 : ∀ q, F53 q → q ≠ r ∧ q ≠ r ∧ q ≠ b1 ∧ q ≠ b6 := fun q hq => by rcases hfr55 q hq with h | h; (have h1 := hVr q h; have h2 := hFlt q h; omega); omega
 have lt57 := VotT.lt ho54
 have rel59 : ∀ q, F53 q → F q ∨ w.heap.size ≤ q := fun q hq => by rcases hfr55 q hq with h | h; exact hFr q h; exact .inr (by omega)
 have dis60 : ∀ q, F53 q → ¬ inA A q := fun q h1 h2 => by rcases hfr55 q h1 with h | h; exact (fun q h1 h2 => hHF q (hAo q h2).1 h1) q h h2; (have h4 := hAlt q h2; omega)
 have dis61 : ∀ q, F53 q → ¬ H41 q := fun q h1 h2 => by rcases hfr55 q h1 with h | h; exact dis48 q h2 h; (have h4 := lt45 q h2; omega)
 refine Oer <| Os 3 [(10, pt b1),(41, .agg #[nt 1, nt ref, nt st])] <| OI_set (m := 3) (kd := true) 52 (.tmp 10) (.tmp 41) 0 (.agg #[nt 1, nt ref, nt st]) [nt 1, nt ref, nt st] none (by kernel_rfl) (by kernel_rfl) (by kernel_rfl) hb1 (by kernel_rfl) (by kernel_rfl) (by kernel_rfl) (Nat.le_of_ble_eq_true (by kernel_rfl)) (by simp [Value.oneCell']) ?_
 intro w62 hb1_65 hk63 hz64
 replace hb1_65 : Blk w62 b1 [nt 1, nt ref, nt st] 52 := hb1_65
 have hsz66 := Keep.size hk63
 replace hK0 := Keep.fr hK0 hk63
 replace hR42 := hR42.keep hk63 (fun q hq hs => by have hs : q = b1 := hs; have g0 := own46 q hq; have g1 := lt45 q hq; omega)
 replace ho54 := ho54.keep hk63 (fun q hq hs => by have hs : q = b1 := hs; have g0 := own58 q hq; have g1 := lt57 q hq; omega)
 refine Oe <| V_ret ?_
 exact leave0 (.agg [nt 1, nt ref, nt st].toArray) (.inl rfl) (res_agg1 (m := 3) rfl rfl (by kernel_rfl) hb1_65 rfl) ⟨rfl, ⟨H41, F53, hR42, ho54, rel47, rel59, (fun q h1 h2 => dis61 q h2 h1)⟩, hK0⟩
set_option maxHeartbeats 1000000 in
theorem cancel_spec (H : Nat → Prop) (r g : Nat) (ts : List Trk) (rs : List Rfm) (F : Nat → Prop) (v : Nat) (s : VS) (ref now : Int) (w : World) (hR : Rfr H w r g ts rs) (hV : VotT F w v s) (hHF : ∀ q, H q → ¬ F q) : Calls Tryz.prog 62 #[pt r, pt v, nt ref, nt now] w fun e w' => ∃ A' cap', e = .returned (.tuple #[.slice A' (canL rs ref).length cap', nt (ongE rs ref)]) ∧ SlT w' 3 Evt.cells A' cap' (canL rs ref) ∧ (∀ q, inA A' q → w.heap.size ≤ q) ∧ (∃ H' F', Rfr H' w' r g ts (canR s rs ref now) ∧ VotT F' w' v (canS s rs ref now) ∧ (∀ q, H' q → H q ∨ w.heap.size ≤ q) ∧ (∀ q, F' q → F q ∨ w.heap.size ≤ q) ∧ (∀ q, H' q → ¬ F' q) ∧ (∀ q, inA A' q → ¬ H' q) ∧ (∀ q, inA A' q → ¬ F' q)) ∧ Keep (fun q => q = g ∨ F q) w w' := by
 have hHlt := Rfr.lt hR
 have hrH := Rfr.at_ hR
 have hgH := Rfr.atg hR
 have hrlt := hHlt _ hrH
 have hglt := hHlt _ hgH
 have hin := Rfr.inn hR
 obtain ⟨A, cap, hr, hA, hAo, hrg⟩ := Rfr.parts hR
 have hAlt := SlT.lt hA
 have hAr : ∀ q, inA A q → q ≠ r ∧ q ≠ g ∧ q < w.heap.size := fun q hq => ⟨(hAo q hq).2.1, (hAo q hq).2.2, hAlt q hq⟩
 have hgo : ∀ q, only g q → q ≠ r ∧ q = g := fun q hq => ⟨fun e => hrg (e.symm.trans hq), hq⟩
 have hgl : ∀ q, only g q → q < w.heap.size := fun q hq => by rw [show q = g from hq]; exact hglt
 have hHo : ∀ q, H q → 0 ≤ q := fun q _ => Nat.zero_le q
 have htl := hin.tl
 have hrl := hin.rl
 have hFlt := VotT.lt hV
 have hvlt := hFlt _ (VotT.at_ hV)
 have hVr : ∀ q, F q → q ≠ r := fun q hq e => hHF r hrH (e ▸ hq)
 have hHr : ∀ q, H q → H q ∨ w.heap.size ≤ q := fun _ h => .inl h
 have hFr : ∀ q, F q → F q ∨ w.heap.size ≤ q := fun _ h => .inl h
 have hK0 : Keep (fun q => q = g ∨ F q) w w := Keep.refl _ _
 refine eV ?_
 refine Vr <| On 2 [0, 1, 2, 3] <| Oe <| V_seq <| Vn [0, 1, 2, 3, 16] <| Vf <| Vsk <| V_seq <| Vr <| On 2 [0, 1, 2, 3, 17, 18] <| Kk (ongoing_spec H r g ts rs ref _ hR) fun w1 hk2 _ => ?_
 replace hR := hR.keep hk2 nk
 replace hV := hV.keep hk2 nk
 replace hK0 := hK0.tn hk2
 refine On 4 [0, 1, 2, 3, 10] <| Oer <| Oen [0, 1, 2, 3, 10, 21] <| V_not (ongE rs ref = 0) (by kernel_rfl) (fun hc4 => ?_) (fun hc4 => ?_)
 ·
  refine Vn [8, 9] <| Rt ?_
  obtain ⟨h15, h25, h35, _⟩ := can_no (s := s) (now := now) (xs := []) (ts := ts) (rs := rs) (ref := ref) rfl hc4
  exact Xr (.tuple #[.slice none 0 0, nt (ongE rs ref)]) ⟨none, 0, by rw [h35]; rfl, by rw [h35]; exact SlT.nil _ _ _, (fun q h => (inA_none h).elim), ⟨H, F, (by rw [h15]; exact hR),(by rw [h25]; exact hV), hHr, hFr, hHF, fun q h => (inA_none h).elim, fun q h => (inA_none h).elim⟩, hK0⟩
 refine Vsk <| Vr <| On 4 [23, 24, 25, 26] <| Kg (ends_spec H r g ts rs F v s ref 5 now _ hR hV hHF (ong_some hc4)) ?_
 rintro _ w6 ⟨rfl, ⟨F8, F11, ho9, ho12, hfr10, hfr13, hdis14⟩, hk7⟩
 refine ⟨_, rfl, ?_⟩
 have hsz15 := Keep.size hk7
 replace hK0 := Keep.fresh hK0 hk7 (fun i hi hs => by rcases hs with hs | hs; (exact .inl hs); (rcases hFr i hs with h | h; exact .inr <| h; (exfalso; omega)))
 have own17 : ∀ q, F8 q → 0 ≤ q := fun q hq => by rcases hfr10 q hq with h | h; (have h1 := hHo q h; have h2 := hHlt q h; omega); omega
 have lt16 := Rfr.lt ho9
 have rel18 : ∀ q, F8 q → H q ∨ w.heap.size ≤ q := fun q hq => by rcases hfr10 q hq with h | h; exact hHr q h; exact .inr (by omega)
 have own20 : ∀ q, F11 q → q ≠ r ∧ q ≠ r := fun q hq => by rcases hfr13 q hq with h | h; (have h1 := hVr q h; have h2 := hFlt q h; omega); omega
 have lt19 := VotT.lt ho12
 have rel21 : ∀ q, F11 q → F q ∨ w.heap.size ≤ q := fun q hq => by rcases hfr13 q hq with h | h; exact hFr q h; exact .inr (by omega)
 have dis22 : ∀ q, F11 q → ¬ inA A q := fun q h1 h2 => by rcases hfr13 q h1 with h | h; exact (fun q h1 h2 => hHF q (hAo q h2).1 h1) q h h2; (have h4 := hAlt q h2; omega)
 refine OI_slit (E := 52) (zv := .agg #[nt 0, nt 0, nt 0]) (sz := 3) (by_ := 24) 27 1 #[(0, (Operand.tmp 27))] [.agg (Evt.cells (Evt.mk 1 ref 5)).toArray] (Evt.cells (Evt.mk 1 ref 5)) (some 28) (by kernel_rfl) (by kernel_rfl) (by kernel_rfl) (by omega) rfl (by omega) (by intro v hv; obtain rfl := List.mem_singleton.1 hv; show (Evt.cells (Evt.mk 1 ref 5)).toArray.size = 3; simp [Evt.len]) (by kernel_rfl) (by show (Evt.cells (Evt.mk 1 ref 5)).toArray.toList ++ [] = _; simp) ?_
 intro b23 w23 e23 hb23 k23 z23
 have hsz24 := Keep.size k23
 replace hK0 := hK0.tn k23
 replace ho9 := ho9.keep k23 nk
 replace ho12 := ho12.keep k23 nk
 have hb23lt := hb23.lt
 refine Oen [8, 9] <| V_ret ?_
 have hE25 : ongE rs ref = 0 := hc4
 obtain ⟨h125, h225, h325⟩ := can_go (s := s) (now := now) hE25
 exact Xr (.tuple #[sl_ b23 0 1 1, nt 0]) ⟨(some ⟨b23, 0, none⟩), 1, by rw [h325, hE25]; rfl, by rw [h325]; exact slt_blk hb23 Evt.len rfl, (fun q h => by have h3 := inA_some h; omega), ⟨F8, F11, (by rw [h125]; exact ho9),(by rw [h225]; exact ho12), rel18, rel21, hdis14, fun q h1 h2 => by have h3 := inA_some h1; have h4 := lt16 q h2; omega, fun q h1 h2 => by have h3 := inA_some h1; have h4 := lt19 q h2; omega⟩, hK0⟩
end Go.Al
namespace Go.Al
open Go Go.RowKit Go.Proofs
set_option maxHeartbeats 1000000 in
theorem kill1_spec (A9 : Option Addr) (cap9 : Nat) (es : List Evt) (bo bl : Nat) (G : Nat → Prop) (l : Nat) (xs : List Acc) (cs : List Ci) (who n : Int) (w : World) (hbo : Blk w bo [.slice A9 es.length cap9] 27) (hbl : Blk w bl [pt l] 31) (hA9 : SlT w 3 Evt.cells A9 cap9 es) (hl : Led G w l xs cs) (hd1 : ∀ q, inA A9 q → q ≠ bo ∧ q ≠ bl) (hd2 : ∀ q, G q → 0 ≤ q ∧ q ≠ bo ∧ q ≠ bl) (hd3 : ∀ q, inA A9 q → ¬ G q) (hn : es.length ≤ 1000) (hbb : bo ≠ bl) : Calls Tryz.prog 89 #[nt who, nt n, pt bo, pt bl] w fun e w' => ∃ A' cap', e = .returned (.tuple #[]) ∧ Blk w' bo [.slice A' (es.length + 1) cap'] 27 ∧ SlT w' 3 Evt.cells A' cap' (es ++ [Evt.mk 6 who (tkN xs who n)]) ∧ (∀ q, inA A' q → inA A9 q ∨ w.heap.size ≤ q) ∧ (∃ G', Led G' w' l (slX xs who n) cs ∧ (∀ q, G' q → G q ∨ w.heap.size ≤ q) ∧ (∀ q, inA A' q → ¬ G' q)) ∧ Keep (fun q => G q ∨ q = bo ∨ inA A9 q) w w' := by
 have hGlt := Led.lt hl
 have hllt := hGlt _ (Led.at_ hl)
 have hA9t := SlT.lt hA9
 have hbolt := hbo.lt
 have hbllt := hbl.lt
 have hGr : ∀ q, G q → G q ∨ w.heap.size ≤ q := fun _ h => .inl h
 have hK0 : Keep (fun q => G q ∨ q = bo ∨ inA A9 q) w w := Keep.refl _ _
 refine eV ?_
 refine Vp [(0, nt who),(1, nt n),(2, pt bo),(3, pt bl)] <| Vd (acts [0, 5, 7, 8, 9]) G [[0, 2, 3, 4, 5, 1, 6, 7, 8, 9], [2, 3, 4, 5, 0, 1, 6, 7, 8, 9], [2, 3, 4, 5, 1, 6, 7, 0, 8, 9]] ?_
 intro w2 hk1 he3 L hL4
 have hsz5 := Keep.size hk1
 replace hbo := hbo.k0 hk1
 replace hbl := hbl.k0 hk1
 replace hA9 := hA9.keep0 hk1
 replace hl := hl.keep hk1 nk
 replace hK0 := hK0.tn hk1
 have qhbl := hbl
 have K6 : Keep G w2 w2 := Keep.refl _ _
 simp only [List.mem_cons, List.not_mem_nil, or_false] at hL4
 rcases hL4 with rfl | rfl | rfl
 ·
  refine GI_cellA 27 (.tmp 2) 0 (.slice A9 es.length cap9) (some 6) (by kernel_rfl) (by kernel_rfl) K6 (by kernel_rfl) hbo (m := 1) (by kernel_rfl) rfl <| Mc 0 (pt l) qhbl (fun hs => by have h1 := hd2 _ hs; omega) rfl <| Gn [5, 1, 6, 7, 8, 9] [0, 2, 6, 8, 9, 10] <| Hg (slash_spec G l xs cs who n _ hl) ?_
  rintro _ w9 ⟨rfl, ⟨F11, ho12, hfr13⟩, hk10⟩
  have K14 := Keep.fresh K6 hk10 (by intro i hi hs; first | exact hs | (exfalso; have h1 := hd2 i hs; have h2 := hGlt i hs; omega) | (have h1 := hd2 i hs; have h2 := hGlt i hs; show _ ∨ _; omega))
  refine ⟨_, rfl, K14, ?_⟩
  have hzK14 := Keep.size K14
  have hsz15 := Keep.size hk10
  replace hbo := hbo.keep hk10 (fun hs => by have h1 := hd2 _ hs; have h2 := hGlt _ hs; omega)
  replace hA9 := hA9.keep hk10 (fun q hq hs => hd3 q hq hs)
  replace hK0 := frl hK0 hk10 hGr
  have own17 : ∀ q, F11 q → 0 ≤ q ∧ q ≠ bo ∧ q ≠ bl := fun q hq => by rcases hfr13 q hq with h | h; (have h1 := hd2 q h; have h2 := hGlt q h; omega); omega
  have lt16 := Led.lt ho12
  have rel18 : ∀ q, F11 q → G q ∨ w.heap.size ≤ q := fun q hq => by rcases hfr13 q hq with h | h; exact hGr q h; exact .inr (by omega)
  have dis19 : ∀ q, F11 q → ¬ inA A9 q := fun q h1 h2 => by rcases hfr13 q h1 with h | h; exact hd3 q h2 h; (have h4 := hA9t q h2; omega)
  refine Gs [7, 8, 9] [(2, pt bo),(6, .slice A9 es.length cap9),(12, .agg #[nt 6, nt who, nt (tkN xs who n)])] <| GI_final 7 (by kernel_rfl) (by kernel_rfl) <| OI_slit (E := 52) (zv := .agg #[nt 0, nt 0, nt 0]) (sz := 3) (by_ := 24) 27 1 #[(0, (Operand.tmp 12))] [.agg #[nt 6, nt who, nt (tkN xs who n)]] [nt 6, nt who, nt (tkN xs who n)] (some 13) (by kernel_rfl) (by kernel_rfl) (by kernel_rfl) (by omega) rfl (by omega) (by intro v hv; simp only [List.mem_cons, List.not_mem_nil, or_false] at hv; rcases hv with rfl <;> rfl) (by kernel_rfl) rfl ?_
  intro b20 w20 e20 hb20 k20 z20
  have hsz21 := Keep.size k20
  replace hbo := hbo.k0 k20
  replace hA9 := hA9.keep0 k20
  replace hK0 := hK0.tn k20
  replace ho12 := ho12.keep k20 nk
  have hb20lt := hb20.lt
  refine OI_append (t := 27) (at2 := 27) (E := 52) (E2 := 52) (sz := 3) (by_ := 24) (zv := .agg #[nt 0, nt 0, nt 0]) (m := es.length) (k := 1) (.tmp 6) (.tmp 13) (.slice A9 es.length cap9) (sl_ b20 0 1 1) (some 14) (by kernel_rfl) (by kernel_rfl) (by kernel_rfl) (by kernel_rfl) (by kernel_rfl) (by kernel_rfl) (by kernel_rfl) (SlT.slr hA9) (slr_one hb20 (Evt.len (Evt.mk 6 who (tkN xs who n)))) (Evt.one (Evt.mk 6 who (tkN xs who n))) (by first | omega | (simp only [List.length_nil]; omega)) (by omega) (by first | omega | (simp only [List.length_nil]; omega)) (by omega) ?_
  intro vv9 w22 hap
  obtain ⟨A22, cap22, rfl, hA22, hk22, own22x⟩ := app_one (f := Evt.cells) (xs := es) (x := (Evt.mk 6 who (tkN xs who n))) (A := A9) (cap := cap9) hap (fun x _ => Evt.len x) (Evt.len _)
  have own22 : ∀ q, inA A22 q → q ≠ bo ∧ q ≠ bl := fun q hq => by rcases own22x q hq with h | h; exact hd1 q h; (show q ≠ bo ∧ q ≠ bl; omega)
  have hsz23 := Keep.size hk22
  replace hbo := hbo.keep hk22 (fun hs => by have h1 := hd1 _ hs; have h2 := hA9t _ hs; omega)
  replace hK0 := Keep.fresh hK0 hk22 (fun i hi hs => by exact .inr (.inr hs))
  replace ho12 := ho12.keep hk22 (fun q hq hs => dis19 q hq hs)
  have lt22 := SlT.lt hA22
  refine St_ 0 (.slice A22 ((es ++ [Evt.mk 6 who (tkN xs who n)]).length) cap22) hbo ?_
  intro w24 hbo_27 hk25 hz26
  replace hbo_27 : Blk w24 bo [.slice A22 ((es ++ [Evt.mk 6 who (tkN xs who n)]).length) cap22] 27 := hbo_27
  have hsz28 := Keep.size hk25
  replace hA22 := hA22.keep hk25 (fun q hq hs => by have hs : q = bo := hs; have g0 := own22 q hq; have g1 := lt22 q hq; omega)
  replace hK0 := Keep.fresh hK0 hk25 (by intro i hi hs; exact .inr (.inl hs))
  replace ho12 := ho12.keep hk25 (fun q hq hs => by have hs : q = bo := hs; have g0 := own17 q hq; have g1 := lt16 q hq; omega)
  refine OI_end rfl ?_
  exact X_end _ rfl ⟨A22, cap22, rfl, by simpa using hbo_27, hA22, (fun q h => by rcases own22x q h with h | h; exact .inl h; exact .inr (by omega)), ⟨F11, ho12, rel18, (fun q h1 h2 => by rcases own22x q h1 with h | h; exact dis19 q h2 h; (have h4 := lt16 q h2; omega))⟩, hK0⟩
 ·
  refine Mc 0 (pt l) qhbl (fun hs => by have h1 := hd2 _ hs; omega) rfl <| Gn [5, 0, 1, 6, 7, 8, 9] [0, 2, 8, 9, 10] <| Hg (slash_spec G l xs cs who n _ hl) ?_
  rintro _ w31 ⟨rfl, ⟨F33, ho34, hfr35⟩, hk32⟩
  have K36 := Keep.fresh K6 hk32 (by intro i hi hs; first | exact hs | (exfalso; have h1 := hd2 i hs; have h2 := hGlt i hs; omega) | (have h1 := hd2 i hs; have h2 := hGlt i hs; show _ ∨ _; omega))
  refine ⟨_, rfl, K36, ?_⟩
  have hzK36 := Keep.size K36
  have hsz37 := Keep.size hk32
  replace hbo := hbo.keep hk32 (fun hs => by have h1 := hd2 _ hs; have h2 := hGlt _ hs; omega)
  replace hA9 := hA9.keep hk32 (fun q hq hs => hd3 q hq hs)
  replace hK0 := frl hK0 hk32 hGr
  have own39 : ∀ q, F33 q → 0 ≤ q ∧ q ≠ bo ∧ q ≠ bl := fun q hq => by rcases hfr35 q hq with h | h; (have h1 := hd2 q h; have h2 := hGlt q h; omega); omega
  have lt38 := Led.lt ho34
  have rel40 : ∀ q, F33 q → G q ∨ w.heap.size ≤ q := fun q hq => by rcases hfr35 q hq with h | h; exact hGr q h; exact .inr (by omega)
  have dis41 : ∀ q, F33 q → ¬ inA A9 q := fun q h1 h2 => by rcases hfr35 q h1 with h | h; exact hd3 q h2 h; (have h4 := hA9t q h2; omega)
  refine GI_cellA 27 (.tmp 2) 0 (.slice A9 es.length cap9) (some 6) (by kernel_rfl) (by kernel_rfl) K36 (by kernel_rfl) hbo (m := 1) (by kernel_rfl) rfl <| Gs [7, 8, 9] [(2, pt bo),(6, .slice A9 es.length cap9),(12, .agg #[nt 6, nt who, nt (tkN xs who n)])] <| GI_final 7 (by kernel_rfl) (by kernel_rfl) <| OI_slit (E := 52) (zv := .agg #[nt 0, nt 0, nt 0]) (sz := 3) (by_ := 24) 27 1 #[(0, (Operand.tmp 12))] [.agg #[nt 6, nt who, nt (tkN xs who n)]] [nt 6, nt who, nt (tkN xs who n)] (some 13) (by kernel_rfl) (by kernel_rfl) (by kernel_rfl) (by omega) rfl (by omega) (by intro v hv; simp only [List.mem_cons, List.not_mem_nil, or_false] at hv; rcases hv with rfl <;> rfl) (by kernel_rfl) rfl ?_
  intro b42 w42 e42 hb42 k42 z42
  have hsz43 := Keep.size k42
  replace hbo := hbo.k0 k42
  replace hA9 := hA9.keep0 k42
  replace hK0 := hK0.tn k42
  replace ho34 := ho34.keep k42 nk
  have hb42lt := hb42.lt
  refine OI_append (t := 27) (at2 := 27) (E := 52) (E2 := 52) (sz := 3) (by_ := 24) (zv := .agg #[nt 0, nt 0, nt 0]) (m := es.length) (k := 1) (.tmp 6) (.tmp 13) (.slice A9 es.length cap9) (sl_ b42 0 1 1) (some 14) (by kernel_rfl) (by kernel_rfl) (by kernel_rfl) (by kernel_rfl) (by kernel_rfl) (by kernel_rfl) (by kernel_rfl) (SlT.slr hA9) (slr_one hb42 (Evt.len (Evt.mk 6 who (tkN xs who n)))) (Evt.one (Evt.mk 6 who (tkN xs who n))) (by first | omega | (simp only [List.length_nil]; omega)) (by omega) (by first | omega | (simp only [List.length_nil]; omega)) (by omega) ?_
  intro vv9 w44 hap
  obtain ⟨A44, cap44, rfl, hA44, hk44, own44x⟩ := app_one (f := Evt.cells) (xs := es) (x := (Evt.mk 6 who (tkN xs who n))) (A := A9) (cap := cap9) hap (fun x _ => Evt.len x) (Evt.len _)
  have own44 : ∀ q, inA A44 q → q ≠ bo ∧ q ≠ bl := fun q hq => by rcases own44x q hq with h | h; exact hd1 q h; (show q ≠ bo ∧ q ≠ bl; omega)
  have hsz45 := Keep.size hk44
  replace hbo := hbo.keep hk44 (fun hs => by have h1 := hd1 _ hs; have h2 := hA9t _ hs; omega)
  replace hK0 := Keep.fresh hK0 hk44 (fun i hi hs => by exact .inr (.inr hs))
  replace ho34 := ho34.keep hk44 (fun q hq hs => dis41 q hq hs)
  have lt44 := SlT.lt hA44
  refine St_ 0 (.slice A44 ((es ++ [Evt.mk 6 who (tkN xs who n)]).length) cap44) hbo ?_
  intro w46 hbo_49 hk47 hz48
  replace hbo_49 : Blk w46 bo [.slice A44 ((es ++ [Evt.mk 6 who (tkN xs who n)]).length) cap44] 27 := hbo_49
  have hsz50 := Keep.size hk47
  replace hA44 := hA44.keep hk47 (fun q hq hs => by have hs : q = bo := hs; have g0 := own44 q hq; have g1 := lt44 q hq; omega)
  replace hK0 := Keep.fresh hK0 hk47 (by intro i hi hs; exact .inr (.inl hs))
  replace ho34 := ho34.keep hk47 (fun q hq hs => by have hs : q = bo := hs; have g0 := own39 q hq; have g1 := lt38 q hq; omega)
  refine OI_end rfl ?_
  exact X_end _ rfl ⟨A44, cap44, rfl, by simpa using hbo_49, hA44, (fun q h => by rcases own44x q h with h | h; exact .inl h; exact .inr (by omega)), ⟨F33, ho34, rel40, (fun q h1 h2 => by rcases own44x q h1 with h | h; exact dis41 q h2 h; (have h4 := lt38 q h2; omega))⟩, hK0⟩
 ·
  refine Mc 0 (pt l) qhbl (fun hs => by have h1 := hd2 _ hs; omega) rfl <| Gn [5, 1, 6, 7, 0, 8, 9] [0, 2, 8, 9, 10] <| Hg (slash_spec G l xs cs who n _ hl) ?_
  rintro _ w53 ⟨rfl, ⟨F55, ho56, hfr57⟩, hk54⟩
  have K58 := Keep.fresh K6 hk54 (by intro i hi hs; first | exact hs | (exfalso; have h1 := hd2 i hs; have h2 := hGlt i hs; omega) | (have h1 := hd2 i hs; have h2 := hGlt i hs; show _ ∨ _; omega))
  refine ⟨_, rfl, K58, ?_⟩
  have hzK58 := Keep.size K58
  have hsz59 := Keep.size hk54
  replace hbo := hbo.keep hk54 (fun hs => by have h1 := hd2 _ hs; have h2 := hGlt _ hs; omega)
  replace hA9 := hA9.keep hk54 (fun q hq hs => hd3 q hq hs)
  replace hK0 := frl hK0 hk54 hGr
  have own61 : ∀ q, F55 q → 0 ≤ q ∧ q ≠ bo ∧ q ≠ bl := fun q hq => by rcases hfr57 q hq with h | h; (have h1 := hd2 q h; have h2 := hGlt q h; omega); omega
  have lt60 := Led.lt ho56
  have rel62 : ∀ q, F55 q → G q ∨ w.heap.size ≤ q := fun q hq => by rcases hfr57 q hq with h | h; exact hGr q h; exact .inr (by omega)
  have dis63 : ∀ q, F55 q → ¬ inA A9 q := fun q h1 h2 => by rcases hfr57 q h1 with h | h; exact hd3 q h2 h; (have h4 := hA9t q h2; omega)
  refine Gs [7, 0, 8, 9] [(2, pt bo),(12, .agg #[nt 6, nt who, nt (tkN xs who n)])] <| GI_slit (E := 52) (zv := .agg #[nt 0, nt 0, nt 0]) (sz := 3) (by_ := 24) 27 1 #[(0, (Operand.tmp 12))] [.agg #[nt 6, nt who, nt (tkN xs who n)]] [nt 6, nt who, nt (tkN xs who n)] (some 13) (by kernel_rfl) (by kernel_rfl) K58 (by kernel_rfl) (by kernel_rfl) (by omega) rfl (by omega) (by intro v hv; simp only [List.mem_cons, List.not_mem_nil, or_false] at hv; rcases hv with rfl <;> rfl) (by kernel_rfl) rfl ?_
  intro b64 w64 e64 hb64 k64 z64 K65
  have hsz66 := Keep.size k64
  replace hbo := hbo.k0 k64
  replace hA9 := hA9.keep0 k64
  replace hK0 := hK0.tn k64
  replace ho56 := ho56.keep k64 nk
  have hb64lt := hb64.lt
  refine GI_cellA 27 (.tmp 2) 0 (.slice A9 es.length cap9) (some 6) (by kernel_rfl) (by kernel_rfl) K65 (by kernel_rfl) hbo (m := 1) (by kernel_rfl) rfl <| GI_final 8 (by kernel_rfl) (by kernel_rfl) <| OI_append (t := 27) (at2 := 27) (E := 52) (E2 := 52) (sz := 3) (by_ := 24) (zv := .agg #[nt 0, nt 0, nt 0]) (m := es.length) (k := 1) (.tmp 6) (.tmp 13) (.slice A9 es.length cap9) (sl_ b64 0 1 1) (some 14) (by kernel_rfl) (by kernel_rfl) (by kernel_rfl) (by kernel_rfl) (by kernel_rfl) (by kernel_rfl) (by kernel_rfl) (SlT.slr hA9) (slr_one hb64 (Evt.len (Evt.mk 6 who (tkN xs who n)))) (Evt.one (Evt.mk 6 who (tkN xs who n))) (by first | omega | (simp only [List.length_nil]; omega)) (by omega) (by first | omega | (simp only [List.length_nil]; omega)) (by omega) ?_
  intro vv9 w67 hap
  obtain ⟨A67, cap67, rfl, hA67, hk67, own67x⟩ := app_one (f := Evt.cells) (xs := es) (x := (Evt.mk 6 who (tkN xs who n))) (A := A9) (cap := cap9) hap (fun x _ => Evt.len x) (Evt.len _)
  have own67 : ∀ q, inA A67 q → q ≠ bo ∧ q ≠ bl := fun q hq => by rcases own67x q hq with h | h; exact hd1 q h; (show q ≠ bo ∧ q ≠ bl; omega)
  have hsz68 := Keep.size hk67
  replace hbo := hbo.keep hk67 (fun hs => by have h1 := hd1 _ hs; have h2 := hA9t _ hs; omega)
  replace hK0 := Keep.fresh hK0 hk67 (fun i hi hs => by exact .inr (.inr hs))
  replace ho56 := ho56.keep hk67 (fun q hq hs => dis63 q hq hs)
  have lt67 := SlT.lt hA67
  refine St_ 0 (.slice A67 ((es ++ [Evt.mk 6 who (tkN xs who n)]).length) cap67) hbo ?_
  intro w69 hbo_72 hk70 hz71
  replace hbo_72 : Blk w69 bo [.slice A67 ((es ++ [Evt.mk 6 who (tkN xs who n)]).length) cap67] 27 := hbo_72
  have hsz73 := Keep.size hk70
  replace hA67 := hA67.keep hk70 (fun q hq hs => by have hs : q = bo := hs; have g0 := own67 q hq; have g1 := lt67 q hq; omega)
  replace hK0 := Keep.fresh hK0 hk70 (by intro i hi hs; exact .inr (.inl hs))
  replace ho56 := ho56.keep hk70 (fun q hq hs => by have hs : q = bo := hs; have g0 := own61 q hq; have g1 := lt60 q hq; omega)
  refine OI_end rfl ?_
  exact X_end _ rfl ⟨A67, cap67, rfl, by simpa using hbo_72, hA67, (fun q h => by rcases own67x q h with h | h; exact .inl h; exact .inr (by omega)), ⟨F55, ho56, rel62, (fun q h1 h2 => by rcases own67x q h1 with h | h; exact dis63 q h2 h; (have h4 := lt60 q h2; omega))⟩, hK0⟩
end Go.Al
