/- A part of the following proof. The law TermLasts returns true at every input and leaves the input as it was. -/
import Derived.CallsIn
import Derived.RangeFuncIn
import Derived.Laws.CopyRow
import Derived.Laws.Cells
import Derived.Great.BuildSlice
import Derived.Laws.StructEq
import GoSem.Instr.MapEntry
import GoSem.Builtin.Delete
import GoSem.Instr.Range
import GoSem.Instr.Next
import GoSem.Instr.Entry
import Derived.Laws.AppendOwn
import Derived.Laws.IdiomRangeMap
set_option linter.unusedSimpArgs false
set_option linter.unusedVariables false
set_option linter.unnecessarySimpa false
set_option linter.all false
namespace Go.Fw
variable {P : Program}

def Runs (P : Program) (T : List Frame → Machine → Prop) (b : Frame) (k : List Item) (a : Act) (w : World) : Prop :=
  ∀ cs, ∃ m, T cs m ∧ Steps P (lone (b.atR a k) cs w) m
def Leaves (P : Program) (f : FuncId) (R : Ending → World → Prop) (cs : List Frame) (m : Machine) : Prop :=
  ∃ e w' fr, R e w' ∧ e ≠ .outgrown ∧ m = lone fr cs w' ∧ fr.fn = f ∧ fr.leaving P w' e
variable {T : List Frame → Machine → Prop} {b : Frame} {k : List Item} {a : Act} {w : World}

theorem Runs.step {k' : List Item} {a' : Act} {w' : World} (h : ∀ cs, step P (lone (b.atR a k) cs w) = .next (lone (b.atR a' k') cs w'))
    (h' : Runs P T b k' a' w') : Runs P T b k a w := fun cs => by
  obtain ⟨m, ht, hs⟩ := h' cs
  exact ⟨m, ht, .head (h cs) hs⟩
theorem runs_seq {x y : Code} (h : Runs P T b (.code x :: .code y :: k) a w) : Runs P T b (.code (.seq x y) :: k) a w := h.step fun _ => stepR_seq
theorem runs_skip (h : Runs P T b k a w) : Runs P T b (.code .skip :: k) a w := h.step fun _ => stepR_skip
theorem runs_inBlock {id : Nat} (h : Runs P T b k a w) : Runs P T b (.inBlock id :: k) a w := h.step fun _ => stepR_inBlock
theorem runs_block {id : Nat} {c : Code} (h : Runs P T b (.code c :: .inBlock id :: k) a w) : Runs P T b (.code (.block id c) :: k) a w := h.step fun _ => stepR_block
theorem runs_loop {c : Code} (h : Runs P T b (.code c :: .inLoop c :: k) a w) : Runs P T b (.code (.loop c) :: k) a w := h.step fun _ => stepR_loop
theorem runs_inLoop {c : Code} (h : Runs P T b (.code c :: .inLoop c :: k) a w) : Runs P T b (.inLoop c :: k) a w := h.step fun _ => stepR_inLoop
theorem runs_cond {c : Operand} {x y : Code} {t : Bool} (hc : a.eval c = .bool t) (h : Runs P T b (.code (if t then x else y) :: k) a w) :
    Runs P T b (.code (.cond c x y) :: k) a w := h.step fun _ => stepR_cond hc
theorem runs_exit {id : Nat} {k' : List Item} (hk : exitTo id k = some k') (h : Runs P T b k' a w) : Runs P T b (.code (.exit id) :: k) a w :=
  h.step fun _ => stepR_exit hk
theorem runs_ret {f : FuncId} {R : Ending → World → Prop} {fn : Func} {v : Value} (hb : b.roundOf = none) (hkd : b.kind = .normal) (hbf : b.fn = f) (hf : P.funcs[f]? = some fn)
    (hd : a.defers = []) (hr : (results fn a.tmps).run P w = .ok v w) (hR : R (.returned v) w) : Runs P (Leaves P f R) b (.code .ret :: k) a w := fun cs =>
  ⟨_, ⟨.returned v, w, { b.atR a (.code .ret :: k) with mode := .returning }, hR, by simp, rfl, hbf, rfl, hd, hkd, fn, by rw [← hbf] at hf; exact hf, hr⟩, .one (stepR_ret hb)⟩
theorem runs_end {f : FuncId} {R : Ending → World → Prop} {fn : Func} {v : Value} (hb : b.roundOf = none) (hkd : b.kind = .normal) (hbf : b.fn = f) (hf : P.funcs[f]? = some fn)
    (hd : a.defers = []) (hr : (results fn a.tmps).run P w = .ok v w) (hR : R (.returned v) w) : Runs P (Leaves P f R) b [] a w := fun cs =>
  ⟨_, ⟨.returned v, w, { b.atR a ([]) with mode := .returning }, hR, by simp, rfl, hbf, rfl, hd, hkd, fn, by rw [← hbf] at hf; exact hf, hr⟩, .one (stepR_end hb)⟩
theorem calls_of_runs {f : FuncId} {R : Ending → World → Prop} {fn : Func} {c : Code} {args : Array Value} (hf : P.funcs[f]? = some fn) (hc : fn.body = some c)
    (h : Runs P (Leaves P f R) { (default : Frame) with fn := f, kind := .normal, roundOf := none } [.code c]
      { tmps := args ++ Array.replicate (fn.ntmps - args.size) undef, defers := [] } w) : Calls P f args w R := fun cs => by
  obtain ⟨m, ⟨e, w', fr, hR, hne, rfl, hfn, hl⟩, hs⟩ := h cs
  have henter : Frame.enter P f args .normal = ({ (default : Frame) with fn := f, kind := .normal, roundOf := none } : Frame).atR
      { tmps := args ++ Array.replicate (fn.ntmps - args.size) undef, defers := [] } [.code c] := by
    simp [Frame.enter, Frame.atR, hf, hc]
  rw [← henter] at hs
  refine ⟨e, w', fr, hR, ?_, hfn, hl⟩
  cases e with
  | outgrown => exact absurd rfl hne
  | returned v => exact hs
  | panicked ch => exact hs
variable {ops : Array Oper} {o : Oper} {i : Nat} {rest : List Nat}
theorem runs_region {id : Nat} (h : Runs P T b (.inRegion ops (List.range ops.size) :: k) a w) : Runs P T b (.code (.region id ops false) :: k) a w := h.step fun _ => stepR_region
theorem runs_draw {id : Nat} (h : ∀ t, Runs P T b (.inRegion ops (Region.schedule (P.follows .mixedOrders) ops t) :: k) a { w with drawn := w.drawn + 1 }) :
    Runs P T b (.code (.region id ops true) :: k) a w := (h _).step fun _ => stepR_region_draw
theorem runs_region_end (h : Runs P T b k a w) : Runs P T b (.inRegion ops [] :: k) a w := h.step fun _ => stepR_region_end
theorem runs_op_skip (ho : ops[i]? = some o) (hw : Region.wanted o (yielded ops a.tmps) = false) (h : Runs P T b (.inRegion ops rest :: k) (a.put o.dst undef) w) :
    Runs P T b (.inRegion ops (i :: rest) :: k) a w := by
  refine h.step fun cs => ?_
  have := stepR_op_skip (P := P) (b := b) (a := a) (k := k) (cs := cs) (w := w) (ops := ops) (i := i) (rest := rest) (by simp [ho, hw])
  rw [ho] at this; exact this
theorem runs_op_value {v : Value} {w' : World} (ho : ops[i]? = some o) (hw : Region.wanted o (yielded ops a.tmps) = true)
    (hr : (o.semAt b.roundOf a.eval).run P w = .ok (.value v) w') (h : Runs P T b (.inRegion ops rest :: k) (a.put o.dst v) w') :
    Runs P T b (.inRegion ops (i :: rest) :: k) a w := by
  refine h.step fun cs => step_lone_go ?_
  have hfin : (b.atR a (.inRegion ops (i :: rest) :: k)).finish v = b.atR (a.put o.dst v) (.inRegion ops rest :: k) := by rw [Frame.finish_atR, ho]; rfl
  rw [stepGR_op ho hw, ← hfin]; simp [stepG.apply, Sem.runT_eq, hr]
theorem runs_op_none {w' : World} (ho : ops[i]? = some o) (hw : Region.wanted o (yielded ops a.tmps) = true)
    (hr : (o.semAt b.roundOf a.eval).run P w = .ok .skip w') (h : Runs P T b (.inRegion ops rest :: k) (a.put o.dst undef) w') :
    Runs P T b (.inRegion ops (i :: rest) :: k) a w := by
  refine h.step fun cs => step_lone_go ?_
  have hfin : (b.atR a (.inRegion ops (i :: rest) :: k)).finish undef = b.atR (a.put o.dst undef) (.inRegion ops rest :: k) := by rw [Frame.finish_atR, ho]; rfl
  rw [stepGR_op ho hw, ← hfin]; simp [stepG.apply, Sem.runT_eq, hr]
theorem runs_op_call {f : FuncId} {args : Array Value} {w1 : World} {R : Value → World → Prop} (ho : ops[i]? = some o) (hw : Region.wanted o (yielded ops a.tmps) = true)
    (hr : (o.semAt b.roundOf a.eval).run P w = .ok (.enter f args) w1) (hc : Calls P f args w1 fun e w' => ∃ v, e = .returned v ∧ R v w')
    (h : ∀ v w', R v w' → Runs P T b (.inRegion ops rest :: k) (a.put o.dst v) w') :
    Runs P T b (.inRegion ops (i :: rest) :: k) a w := fun cs => by
  obtain ⟨e, w', fr, ⟨v, rfl, hR⟩, hs, _, hl⟩ := hc (b.atR a (.inRegion ops (i :: rest) :: k) :: cs)
  obtain ⟨m, ht, hs2⟩ := h v w' hR cs
  have hfin : (b.atR a (.inRegion ops (i :: rest) :: k)).finish v = b.atR (a.put o.dst v) (.inRegion ops rest :: k) := by rw [Frame.finish_atR, ho]; rfl
  have henter : Go.step P (lone (b.atR a (.inRegion ops (i :: rest) :: k)) cs w) =
      .next (lone (Frame.enter P f args .normal) (b.atR a (.inRegion ops (i :: rest) :: k) :: cs) w1) :=
    step_lone_go (by rw [stepGR_op ho hw]; simp [stepG.apply, Sem.runT_eq, hr, Frame.atR])
  have hback := step_leave_returned (P := P) (c := b.atR a (.inRegion ops (i :: rest) :: k)) (cs := cs) hl
  rw [hfin] at hback
  exact ⟨m, ht, .head henter (Steps.trans hs (.head hback hs2))⟩
end Go.Fw

namespace Go.Fw

inductive AV where
  | int (k : IntKind) (n : Int)
  | bool (b : Bool)
  | str (s : ByteArray)
  | agg (l : List AV)
  | tup (l : List AV)
  | sl (l : List AV)
  | nsl
  | osl (i : Nat)
  | box (i off : Nat)
  | elp (i off : Nat)
  | fp (l : List AV) (off : Nat)
  | mp (i : Nat)
  | fm (ks vs : List AV)
  | nmp
  | itr (i : Nat)
  | fn (f : Fn) (fs cs : List AV)
  | nilfn
  | iface (t : TypeId) (x : AV)
  | nilif
  | nilp
  | junk
  deriving Inhabited
def AV.cells : AV → List AV
  | .agg l => l
  | x => [x]
def Seg (cs : Array Value) (off : Nat) (vs : List Value) : Prop := ∀ j, j < vs.length → cs[off + j]? = vs[j]?
def flat (vs : List Value) : List Value := vs.flatMap fun v => v.cells.toList
abbrev HP := Nat → Option Obj
def One (v : Value) : Prop := (∀ x, v ≠ .agg x) ∧ ∀ x, v ≠ .tuple x
mutual
def Conc (γ : List Value) (H : HP) : AV → Value → Prop
  | .int k n, v => v = .int k n
  | .bool b, v => v = .bool b
  | .str s, v => v = .string s
  | .agg l, v => ∃ vs : List Value, v = .agg ⟨vs⟩ ∧ ConcL γ H l vs
  | .tup l, v => ∃ vs : List Value, v = .tuple ⟨vs⟩ ∧ ConcL γ H l vs
  | .sl l, v => ∃ A c k, ∃ vs : List Value, v = .slice A l.length c ∧ l.length ≤ c ∧ ConcL [] H l vs ∧ (∀ x ∈ vs, x.cells.size = k) ∧
      (l ≠ [] → ∃ b off cs T fz, A = some ⟨b, off, none⟩ ∧ H b = some (.cells cs T fz) ∧ Seg cs off (flat vs))
  | .nsl, v => v = .slice none 0 0
  | .osl i, v => γ[i]? = some v ∧ ∃ A n c, v = .slice A n c
  | .box i off, v => ∃ b, γ[i]? = some (.pointer (some ⟨b, 0, none⟩)) ∧ v = .pointer (some ⟨b, off, none⟩)
  | .elp i off, v => ∃ b n c, γ[i]? = some (.slice (some ⟨b, 0, none⟩) n c) ∧ v = .pointer (some ⟨b, off, none⟩)
  | .fp l off, v => ∃ b o cs T fz, ∃ vs : List Value, v = .pointer (some ⟨b, o + off, none⟩) ∧ H b = some (.cells cs T fz) ∧ ConcL [] H l vs ∧ Seg cs o vs
  | .mp i, v => γ[i]? = some v ∧ ∃ b, v = .map (some b)
  | .fm ks vs, v => ∃ b ents clk, ∃ es : List MapEntry, v = .map (some b) ∧ H b = some (.map ents clk) ∧ es.Perm ents.toList ∧ ConcL [] H ks (es.map (·.key)) ∧ ConcL [] H vs (es.map (·.val)) ∧
      (ents.toList.map (·.born)).Nodup ∧ ∀ e ∈ ents.toList, e.born < clk
  | .nmp, v => v = .map none
  | .itr i, v => γ[i]? = some v ∧ ∃ b, v = .pointer (some ⟨b, 0, none⟩)
  | .fn f fs cs, v => ∃ ws us : List Value, v = .func f ⟨ws⟩ ⟨us⟩ ∧ ConcL γ H fs ws ∧ ConcL γ H cs us
  | .nilfn, v => v = .nilFunc
  | .iface t x, v => ∃ u, v = .iface t u ∧ Conc γ H x u
  | .nilif, v => v = .nilIface
  | .nilp, v => v = .pointer none
  | .junk, v => One v
def ConcL (γ : List Value) (H : HP) : List AV → List Value → Prop
  | [], vs => vs = []
  | x :: xs, vs => ∃ v vs', vs = v :: vs' ∧ Conc γ H x v ∧ ConcL γ H xs vs'
end
inductive OE where
  | box (h : Option Nat) (T : TypeId) (cs : List AV)
  | obj (h : Option Nat) (o : Obj)
  | row (T : TypeId) (k : Nat) (xs : List AV)
  | map (ks vs : List AV)
  | iter (rk rv : List AV) (cur : Option (AV × AV))
  | gone
  deriving Inhabited
def MapAt (w : World) (b : Nat) (ents : Array MapEntry) (clk : Nat) : Prop :=
  w.heap[b]? = some (.map ents clk) ∧ (ents.toList.map (·.born)).Nodup ∧ ∀ e ∈ ents.toList, e.born < clk
def EntryOK (γ : List Value) (H : HP) (w : World) (i : Nat) : OE → Prop
  | .box h T cs => ∃ b, ∃ vs : List Value, γ[i]? = some (.pointer (some ⟨b, 0, none⟩)) ∧ w.heap[b]? = some (.cells ⟨vs⟩ T (0, 0)) ∧ ConcL γ H cs vs ∧ (∀ v ∈ vs, One v) ∧ ∀ k, h = some k → k = b
  | .obj h o => ∃ b, γ[i]? = some (.pointer (some ⟨b, 0, none⟩)) ∧ w.heap[b]? = some o ∧ ∀ k, h = some k → k = b
  | .row T k xs => (xs = [] ∧ γ[i]? = some (.slice none 0 0)) ∨ ∃ b cap cs, ∃ vs : List Value, γ[i]? = some (.slice (some ⟨b, 0, none⟩) xs.length cap) ∧ xs.length ≤ cap ∧ cap ≤ 9223372036854775807 ∧
      w.heap[b]? = some (.cells cs T (0, 0)) ∧ cs.size = cap * k ∧ ConcL [] H xs vs ∧ (∀ x ∈ vs, x.cells.size = k) ∧ (∀ x ∈ flat vs, One x) ∧ Seg cs 0 (flat vs)
  | .map ks vs => ∃ b ents clk, ∃ es : List MapEntry, γ[i]? = some (.map (some b)) ∧ MapAt w b ents clk ∧ es.Perm ents.toList ∧ ConcL [] H ks (es.map (·.key)) ∧ ConcL [] H vs (es.map (·.val))
  | .iter rk rv cur => ∃ r b ents clk seen, ∃ left : List MapEntry, γ[i]? = some (.pointer (some ⟨r, 0, none⟩)) ∧ w.heap[r]? = some (.mapIter (some b) clk seen clk) ∧
      H b = some (.map ents clk) ∧ ((ents.toList.map (·.born)).Nodup ∧ ∀ e ∈ ents.toList, e.born < clk) ∧ (∀ e ∈ ents.toList, e ∈ left ↔ e.born ∉ seen) ∧ left ⊆ ents.toList ∧ left.Nodup ∧
      ConcL [] H rk (left.map (·.key)) ∧ ConcL [] H rv (left.map (·.val)) ∧
      (∀ c, cur = some c → ∃ e ∈ ents.toList, seen.back? = some e.born ∧ Conc [] H c.1 e.key ∧ Conc [] H c.2 e.val)
  | .gone => True
def hblk : Value → Option Nat
  | .pointer (some a) => some a.block
  | .slice (some a) _ _ => some a.block
  | .map (some b) => some b
  | _ => none
structure Base where
  w : World
  H : HP
  γ : List Value
  df : List Deferred
def Fwd (w w' : World) : Prop := w'.output = w.output ∧ w.drawn ≤ w'.drawn
theorem Fwd.refl (w : World) : Fwd w w := ⟨rfl, Nat.le_refl _⟩
theorem Fwd.trans {w w' w'' : World} (h : Fwd w' w'') (h' : Fwd w w') : Fwd w w'' := ⟨h.1.trans h'.1, Nat.le_trans h'.2 h.2⟩
structure OwnOK (B : Base) (γ : List Value) (H : HP) (own : List OE) (w : World) : Prop where
  os : w.os = B.w.os
  tape : w.tape = B.w.tape
  output : Fwd B.w w
  size : B.w.heap.size ≤ w.heap.size
  keep : ∀ b, b < B.w.heap.size → (∀ v ∈ B.γ, hblk v ≠ some b) → w.heap[b]? = B.w.heap[b]?
  hle : ∀ b o, B.H b = some o → H b = some o
  hdom : ∀ b o, H b = some o → b < B.w.heap.size → B.H b = some o
  fro : ∀ b o, H b = some o → w.heap[b]? = some o
  len : γ.length = own.length
  ent : ∀ (i : Nat) (e : OE), own[i]? = some e → EntryOK γ H w i e
  free : ∀ (i : Nat) (e : OE) (v : Value) (b : Nat), own[i]? = some e → e ≠ OE.gone → γ[i]? = some v → hblk v = some b → H b = none
  newb : ∀ (i : Nat) (e : OE) (v : Value) (b : Nat), own[i]? = some e → e ≠ OE.gone → γ[i]? = some v → hblk v = some b → B.w.heap.size ≤ b ∨ ∃ u ∈ B.γ, hblk u = some b
  apart : ∀ (i j : Nat) (e e' : OE) (v v' : Value) (b : Nat), i ≠ j → own[i]? = some e → own[j]? = some e' → e ≠ OE.gone → e' ≠ OE.gone → γ[i]? = some v → γ[j]? = some v' → hblk v = some b → hblk v' ≠ some b
def EnvOK (γ : List Value) (H : HP) (env : List (Nat × AV)) (tmps : Array Value) : Prop :=
  ∀ p ∈ env, ∃ v, tmps[p.1]? = some v ∧ Conc γ H p.2 v
structure AS where
  n : Nat
  env : List (Nat × AV)
  own : List OE
def Sat (B : Base) (S : AS) (a : Act) (w : World) : Prop :=
  ∃ γ H, OwnOK B γ H S.own w ∧ EnvOK γ H S.env a.tmps ∧ a.tmps.size = S.n ∧ a.defers = B.df
theorem concL_length {γ : List Value} {H : HP} : ∀ {l : List AV} {vs : List Value}, ConcL γ H l vs → vs.length = l.length
  | [], vs, h => by simp [ConcL] at h; simp [h]
  | x :: xs, vs, h => by
    obtain ⟨v, vs', rfl, _, h'⟩ := h
    simp [concL_length h']
theorem concL_get {γ : List Value} {H : HP} : ∀ {l : List AV} {vs : List Value} {i : Nat} {x : AV}, ConcL γ H l vs → l[i]? = some x → ∃ v, vs[i]? = some v ∧ Conc γ H x v
  | [], vs, i, x, h, hx => by simp at hx
  | y :: xs, vs, i, x, h, hx => by
    obtain ⟨v, vs', rfl, hv, h'⟩ := h
    cases i with
    | zero => simp at hx; subst hx; exact ⟨v, by simp, hv⟩
    | succ i => simp at hx ⊢; exact concL_get h' hx
theorem concL_append {γ : List Value} {H : HP} : ∀ {l l' : List AV} {vs vs' : List Value}, ConcL γ H l vs → ConcL γ H l' vs' → ConcL γ H (l ++ l') (vs ++ vs')
  | [], l', vs, vs', h, h' => by simp [ConcL] at h; subst h; simpa using h'
  | x :: xs, l', vs, vs', h, h' => by
    obtain ⟨v, us, rfl, hv, hu⟩ := h
    exact ⟨v, us ++ vs', rfl, hv, concL_append hu h'⟩
theorem concL_set {γ : List Value} {H : HP} : ∀ {l : List AV} {vs : List Value} {i : Nat} {x : AV} {v : Value}, ConcL γ H l vs → Conc γ H x v → ConcL γ H (l.set i x) (vs.set i v)
  | [], vs, i, x, v, h, hx => by simp [ConcL] at h; subst h; simp [ConcL]
  | y :: xs, vs, i, x, v, h, hx => by
    obtain ⟨u, us, rfl, hu, h'⟩ := h
    cases i with
    | zero => exact ⟨v, us, rfl, hx, h'⟩
    | succ i => exact ⟨u, us.set i v, rfl, hu, concL_set h' hx⟩
theorem concL_take {γ : List Value} {H : HP} : ∀ {l : List AV} {vs : List Value} (n : Nat), ConcL γ H l vs → ConcL γ H (l.take n) (vs.take n)
  | [], vs, n, h => by simp [ConcL] at h; subst h; simp [ConcL]
  | y :: xs, vs, n, h => by
    obtain ⟨u, us, rfl, hu, h'⟩ := h
    cases n with
    | zero => simp [ConcL]
    | succ n => exact ⟨u, us.take n, rfl, hu, concL_take n h'⟩
theorem concL_drop {γ : List Value} {H : HP} : ∀ {l : List AV} {vs : List Value} (n : Nat), ConcL γ H l vs → ConcL γ H (l.drop n) (vs.drop n)
  | [], vs, n, h => by simp [ConcL] at h; subst h; simp [ConcL]
  | y :: xs, vs, n, h => by
    obtain ⟨u, us, rfl, hu, h'⟩ := h
    cases n with
    | zero => exact ⟨u, us, rfl, hu, h'⟩
    | succ n => simpa using concL_drop n h'
theorem concL_cons {γ : List Value} {H : HP} {x : AV} {xs : List AV} {v : Value} {vs : List Value} : ConcL γ H (x :: xs) (v :: vs) ↔ Conc γ H x v ∧ ConcL γ H xs vs := by
  constructor
  · rintro ⟨v', vs', e, h, h'⟩
    injection e with e1 e2; subst e1; subst e2; exact ⟨h, h'⟩
  · rintro ⟨h, h'⟩; exact ⟨v, vs, rfl, h, h'⟩
def AV.isRef : AV → Bool
  | .osl _ | .box _ _ | .elp _ _ | .mp _ | .itr _ => true
  | _ => false
mutual
def AV.sub (f : AV → AV) : AV → AV
  | .agg l => .agg (AV.subL f l)
  | .tup l => .tup (AV.subL f l)
  | .fn g fs cs => .fn g (AV.subL f fs) (AV.subL f cs)
  | .iface t x => .iface t (AV.sub f x)
  | .osl i => f (.osl i)
  | .box i o => f (.box i o)
  | .elp i o => f (.elp i o)
  | .mp i => f (.mp i)
  | .itr i => f (.itr i)
  | x => x
def AV.subL (f : AV → AV) : List AV → List AV
  | [] => []
  | x :: xs => AV.sub f x :: AV.subL f xs
end
def HLe (H H' : HP) : Prop := ∀ b o, H b = some o → H' b = some o
theorem HLe.refl (H : HP) : HLe H H := fun _ _ h => h
theorem HLe.trans {H H' H'' : HP} (h : HLe H H') (h' : HLe H' H'') : HLe H H'' := fun b o hb => h' b o (h b o hb)
mutual
theorem conc_sub {γ γ' : List Value} {H H' : HP} {f : AV → AV} (hH : HLe H H') (hf : ∀ x v, x.isRef = true → Conc γ H x v → Conc γ' H' (f x) v) :
    ∀ (x : AV) (v : Value), Conc γ H x v → Conc γ' H' (x.sub f) v
  | .int k n, v, h => by simpa [AV.sub, Conc] using h
  | .bool b, v, h => by simpa [AV.sub, Conc] using h
  | .str s, v, h => by simpa [AV.sub, Conc] using h
  | .agg l, v, h => by
    simp only [Conc] at h; obtain ⟨vs, rfl, h⟩ := h
    simp only [AV.sub, Conc]; exact ⟨vs, rfl, concL_sub hH hf l vs h⟩
  | .tup l, v, h => by
    simp only [Conc] at h; obtain ⟨vs, rfl, h⟩ := h
    simp only [AV.sub, Conc]; exact ⟨vs, rfl, concL_sub hH hf l vs h⟩
  | .sl l, v, h => by
    simp only [Conc] at h; obtain ⟨A, c, k, vs, rfl, hc, hl, hk, hp⟩ := h
    simp only [AV.sub, Conc]
    refine ⟨A, c, k, vs, rfl, hc, concL_closed hH l vs hl, hk, fun hne => ?_⟩
    obtain ⟨b, off, cs, T, fz, e, hb, hs⟩ := hp hne
    exact ⟨b, off, cs, T, fz, e, hH _ _ hb, hs⟩
  | .nsl, v, h => by simpa [AV.sub, Conc] using h
  | .osl i, v, h => by simp only [AV.sub]; exact hf _ _ rfl h
  | .box i o, v, h => by simp only [AV.sub]; exact hf _ _ rfl h
  | .elp i o, v, h => by simp only [AV.sub]; exact hf _ _ rfl h
  | .fp l off, v, h => by
    simp only [Conc] at h; obtain ⟨b, o, cs, T, fz, vs, rfl, hb, hl, hs⟩ := h
    simp only [AV.sub, Conc]
    exact ⟨b, o, cs, T, fz, vs, rfl, hH _ _ hb, concL_closed hH l vs hl, hs⟩
  | .mp i, v, h => by simp only [AV.sub]; exact hf _ _ rfl h
  | .fm ks vs, v, h => by
    simp only [Conc] at h; obtain ⟨b, ents, clk, es, rfl, hb, hp, hk, hv, h1, h2⟩ := h
    simp only [AV.sub, Conc]
    exact ⟨b, ents, clk, es, rfl, hH _ _ hb, hp, concL_closed hH ks _ hk, concL_closed hH vs _ hv, h1, h2⟩
  | .nmp, v, h => by simpa [AV.sub, Conc] using h
  | .itr i, v, h => by simp only [AV.sub]; exact hf _ _ rfl h
  | .fn g fs cs, v, h => by
    simp only [Conc] at h; obtain ⟨ws, us, rfl, h1, h2⟩ := h
    simp only [AV.sub, Conc]; exact ⟨ws, us, rfl, concL_sub hH hf fs ws h1, concL_sub hH hf cs us h2⟩
  | .nilfn, v, h => by simpa [AV.sub, Conc] using h
  | .iface t x, v, h => by
    simp only [Conc] at h; obtain ⟨u, rfl, h⟩ := h
    simp only [AV.sub, Conc]; exact ⟨u, rfl, conc_sub hH hf x u h⟩
  | .nilif, v, h => by simpa [AV.sub, Conc] using h
  | .nilp, v, h => by simpa [AV.sub, Conc] using h
  | .junk, v, h => by simpa [AV.sub, Conc] using h
theorem concL_sub {γ γ' : List Value} {H H' : HP} {f : AV → AV} (hH : HLe H H') (hf : ∀ x v, x.isRef = true → Conc γ H x v → Conc γ' H' (f x) v) :
    ∀ (l : List AV) (vs : List Value), ConcL γ H l vs → ConcL γ' H' (AV.subL f l) vs
  | [], vs, h => by simpa [AV.subL, ConcL] using h
  | x :: xs, vs, h => by
    simp only [ConcL] at h; obtain ⟨v, vs', rfl, hx, hxs⟩ := h
    simp only [AV.subL, ConcL]; exact ⟨v, vs', rfl, conc_sub hH hf x v hx, concL_sub hH hf xs vs' hxs⟩
theorem conc_closed {H H' : HP} (hH : HLe H H') : ∀ (x : AV) (v : Value), Conc [] H x v → Conc [] H' x v
  | .int k n, v, h => by simpa [Conc] using h
  | .bool b, v, h => by simpa [Conc] using h
  | .str s, v, h => by simpa [Conc] using h
  | .agg l, v, h => by
    simp only [Conc] at h ⊢; obtain ⟨vs, rfl, h⟩ := h
    exact ⟨vs, rfl, concL_closed hH l vs h⟩
  | .tup l, v, h => by
    simp only [Conc] at h ⊢; obtain ⟨vs, rfl, h⟩ := h
    exact ⟨vs, rfl, concL_closed hH l vs h⟩
  | .sl l, v, h => by
    simp only [Conc] at h ⊢; obtain ⟨A, c, k, vs, rfl, hc, hl, hk, hp⟩ := h
    refine ⟨A, c, k, vs, rfl, hc, concL_closed hH l vs hl, hk, fun hne => ?_⟩
    obtain ⟨b, off, cs, T, fz, e, hb, hs⟩ := hp hne
    exact ⟨b, off, cs, T, fz, e, hH _ _ hb, hs⟩
  | .nsl, v, h => by simpa [Conc] using h
  | .osl i, v, h => by simp [Conc] at h
  | .box i o, v, h => by simp [Conc] at h
  | .elp i o, v, h => by simp [Conc] at h
  | .fp l off, v, h => by
    simp only [Conc] at h ⊢; obtain ⟨b, o, cs, T, fz, vs, rfl, hb, hl, hs⟩ := h
    exact ⟨b, o, cs, T, fz, vs, rfl, hH _ _ hb, concL_closed hH l vs hl, hs⟩
  | .mp i, v, h => by simp [Conc] at h
  | .fm ks vs, v, h => by
    simp only [Conc] at h ⊢; obtain ⟨b, ents, clk, es, rfl, hb, hp, hk, hv, h1, h2⟩ := h
    exact ⟨b, ents, clk, es, rfl, hH _ _ hb, hp, concL_closed hH ks _ hk, concL_closed hH vs _ hv, h1, h2⟩
  | .nmp, v, h => by simpa [Conc] using h
  | .itr i, v, h => by simp [Conc] at h
  | .fn g fs cs, v, h => by
    simp only [Conc] at h ⊢; obtain ⟨ws, us, rfl, h1, h2⟩ := h
    exact ⟨ws, us, rfl, concL_closed hH fs ws h1, concL_closed hH cs us h2⟩
  | .nilfn, v, h => by simpa [Conc] using h
  | .iface t x, v, h => by
    simp only [Conc] at h ⊢; obtain ⟨u, rfl, h⟩ := h
    exact ⟨u, rfl, conc_closed hH x u h⟩
  | .nilif, v, h => by simpa [Conc] using h
  | .nilp, v, h => by simpa [Conc] using h
  | .junk, v, h => by simpa [Conc] using h
theorem concL_closed {H H' : HP} (hH : HLe H H') : ∀ (l : List AV) (vs : List Value), ConcL [] H l vs → ConcL [] H' l vs
  | [], vs, h => by simpa [ConcL] using h
  | x :: xs, vs, h => by
    simp only [ConcL] at h ⊢; obtain ⟨v, vs', rfl, hx, hxs⟩ := h
    exact ⟨v, vs', rfl, conc_closed hH x v hx, concL_closed hH xs vs' hxs⟩
end
mutual
theorem sub_id {f : AV → AV} (hf : ∀ x, x.isRef = true → f x = x) : ∀ x : AV, x.sub f = x
  | .agg l => by simp only [AV.sub, subL_id hf l]
  | .tup l => by simp only [AV.sub, subL_id hf l]
  | .fn g fs cs => by simp only [AV.sub, subL_id hf fs, subL_id hf cs]
  | .iface t x => by simp only [AV.sub, sub_id hf x]
  | .osl i => by simp only [AV.sub]; exact hf _ rfl
  | .box i o => by simp only [AV.sub]; exact hf _ rfl
  | .elp i o => by simp only [AV.sub]; exact hf _ rfl
  | .mp i => by simp only [AV.sub]; exact hf _ rfl
  | .itr i => by simp only [AV.sub]; exact hf _ rfl
  | .int _ _ => rfl | .bool _ => rfl | .str _ => rfl | .sl _ => rfl | .nsl => rfl | .fp _ _ => rfl | .fm _ _ => rfl | .nmp => rfl | .nilfn => rfl | .nilif => rfl | .nilp => rfl | .junk => rfl
theorem subL_id {f : AV → AV} (hf : ∀ x, x.isRef = true → f x = x) : ∀ l : List AV, AV.subL f l = l
  | [] => rfl
  | x :: xs => by simp only [AV.subL, sub_id hf x, subL_id hf xs]
end
theorem conc_mono {γ γ' : List Value} {H H' : HP} (hH : HLe H H') (hγ : ∀ (i : Nat) (v : Value), γ[i]? = some v → γ'[i]? = some v) {x : AV} {v : Value} (h : Conc γ H x v) : Conc γ' H' x v := by
  have := conc_sub (f := id) hH (γ' := γ') (fun x v hx hc => by
    cases x <;> simp only [AV.isRef, Bool.false_eq_true] at hx <;> simp only [Conc, id] at hc ⊢
    · exact ⟨hγ _ _ hc.1, hc.2⟩
    · obtain ⟨b, h1, h2⟩ := hc; exact ⟨b, hγ _ _ h1, h2⟩
    · obtain ⟨b, n, c, h1, h2⟩ := hc; exact ⟨b, n, c, hγ _ _ h1, h2⟩
    · exact ⟨hγ _ _ hc.1, hc.2⟩
    · exact ⟨hγ _ _ hc.1, hc.2⟩) x v h
  rwa [sub_id (f := id) (fun _ _ => rfl)] at this
theorem concL_mono {γ γ' : List Value} {H H' : HP} (hH : HLe H H') (hγ : ∀ (i : Nat) (v : Value), γ[i]? = some v → γ'[i]? = some v) {l : List AV} {vs : List Value} (h : ConcL γ H l vs) : ConcL γ' H' l vs := by
  have := concL_sub (f := id) hH (γ' := γ') (fun x v hx hc => by
    have := conc_mono hH hγ hc
    simpa using this) l vs h
  rwa [subL_id (f := id) (fun _ _ => rfl)] at this
theorem conc_open {H : HP} {γ : List Value} {x : AV} {v : Value} (h : Conc [] H x v) : Conc γ H x v := conc_mono (HLe.refl H) (fun i v h => by simp at h) h
theorem concL_open {H : HP} {γ : List Value} {l : List AV} {vs : List Value} (h : ConcL [] H l vs) : ConcL γ H l vs := concL_mono (HLe.refl H) (fun i v h => by simp at h) h
mutual
def AV.closed : AV → Bool
  | .agg l => AV.closedL l
  | .tup l => AV.closedL l
  | .fn _ fs cs => AV.closedL fs && AV.closedL cs
  | .iface _ x => AV.closed x
  | .osl _ | .box _ _ | .elp _ _ | .mp _ | .itr _ => false
  | _ => true
def AV.closedL : List AV → Bool
  | [] => true
  | x :: xs => AV.closed x && AV.closedL xs
end
mutual
theorem conc_close {γ : List Value} {H : HP} : ∀ (x : AV) (v : Value), x.closed = true → Conc γ H x v → Conc [] H x v
  | .int k n, v, _, h => by simpa [Conc] using h
  | .bool b, v, _, h => by simpa [Conc] using h
  | .str s, v, _, h => by simpa [Conc] using h
  | .agg l, v, hc, h => by
    simp only [Conc] at h ⊢; obtain ⟨vs, rfl, h⟩ := h
    exact ⟨vs, rfl, concL_close l vs (by simpa [AV.closed] using hc) h⟩
  | .tup l, v, hc, h => by
    simp only [Conc] at h ⊢; obtain ⟨vs, rfl, h⟩ := h
    exact ⟨vs, rfl, concL_close l vs (by simpa [AV.closed] using hc) h⟩
  | .sl l, v, _, h => by simpa only [Conc] using h
  | .nsl, v, _, h => by simpa [Conc] using h
  | .osl i, v, hc, h => by simp [AV.closed] at hc
  | .box i o, v, hc, h => by simp [AV.closed] at hc
  | .elp i o, v, hc, h => by simp [AV.closed] at hc
  | .fp l off, v, _, h => by simpa only [Conc] using h
  | .mp i, v, hc, h => by simp [AV.closed] at hc
  | .fm ks vs, v, _, h => by simpa only [Conc] using h
  | .nmp, v, _, h => by simpa [Conc] using h
  | .itr i, v, hc, h => by simp [AV.closed] at hc
  | .fn g fs cs, v, hc, h => by
    simp only [AV.closed, Bool.and_eq_true] at hc
    simp only [Conc] at h ⊢; obtain ⟨ws, us, rfl, h1, h2⟩ := h
    exact ⟨ws, us, rfl, concL_close fs ws hc.1 h1, concL_close cs us hc.2 h2⟩
  | .nilfn, v, _, h => by simpa [Conc] using h
  | .iface t x, v, hc, h => by
    simp only [Conc] at h ⊢; obtain ⟨u, rfl, h⟩ := h
    exact ⟨u, rfl, conc_close x u (by simpa [AV.closed] using hc) h⟩
  | .nilif, v, _, h => by simpa [Conc] using h
  | .nilp, v, _, h => by simpa [Conc] using h
  | .junk, v, _, h => by simpa [Conc] using h
theorem concL_close {γ : List Value} {H : HP} : ∀ (l : List AV) (vs : List Value), AV.closedL l = true → ConcL γ H l vs → ConcL [] H l vs
  | [], vs, _, h => by simpa [ConcL] using h
  | x :: xs, vs, hc, h => by
    simp only [AV.closedL, Bool.and_eq_true] at hc
    simp only [ConcL] at h ⊢; obtain ⟨v, vs', rfl, hx, hxs⟩ := h
    exact ⟨v, vs', rfl, conc_close x v hc.1 hx, concL_close xs vs' hc.2 hxs⟩
end
end Go.Fw

namespace Go.Fw
variable {B : Base} {γ γ' : List Value} {H H' : HP} {own : List OE} {w w' : World}

def Ext (γ γ' : List Value) : Prop := ∀ (i : Nat) (v : Value), γ[i]? = some v → γ'[i]? = some v
theorem Ext.refl (γ : List Value) : Ext γ γ := fun _ _ h => h
theorem Ext.trans {γ γ' γ'' : List Value} (h : Ext γ γ') (h' : Ext γ' γ'') : Ext γ γ'' := fun i v hv => h' i v (h i v hv)
theorem Ext.snoc (γ : List Value) (u : Value) : Ext γ (γ ++ [u]) := fun i v h => by
  have := (List.getElem?_eq_some_iff.1 h).1
  rw [List.getElem?_append_left this]; exact h
theorem entryOK_map {b : Nat} {i : Nat} {e : OE} (hγ : Ext γ γ') (hH : HLe H H') (hw : ∀ k o, k ≠ b → w.heap[k]? = some o → w'.heap[k]? = some o)
    (h1 : e ≠ .gone → ∀ v, γ[i]? = some v → hblk v ≠ some b)
    (h : EntryOK γ H w i e) : EntryOK γ' H' w' i e := by
  cases e with
  | obj h0 o =>
    obtain ⟨b', hg, hb, hk⟩ := h
    exact ⟨b', hγ _ _ hg, hw _ _ (fun he => h1 (by simp) _ hg (by simp [hblk, he])) hb, hk⟩
  | box h0 T cs =>
    obtain ⟨b', vs, hg, hb, hc, ho⟩ := h
    exact ⟨b', vs, hγ _ _ hg, hw _ _ (fun he => h1 (by simp) _ hg (by simp [hblk, he])) hb, concL_mono hH hγ hc, ho⟩
  | row T k xs =>
    rcases h with ⟨hx, hg⟩ | ⟨b', cap, cs, vs, hg, hcap, hcm, hb, hsz, hc, hk, ho, hs⟩
    · exact .inl ⟨hx, hγ _ _ hg⟩
    · exact .inr ⟨b', cap, cs, vs, hγ _ _ hg, hcap, hcm, hw _ _ (fun he => h1 (by simp) _ hg (by simp [hblk, he])) hb, hsz, concL_closed hH _ _ hc, hk, ho, hs⟩
  | map ks vs =>
    obtain ⟨b', ents, clk, es, hg, ⟨hb, hn, hl⟩, hp, hk, hv⟩ := h
    exact ⟨b', ents, clk, es, hγ _ _ hg, ⟨hw _ _ (fun he => h1 (by simp) _ hg (by simp [hblk, he])) hb, hn, hl⟩, hp, concL_closed hH _ _ hk, concL_closed hH _ _ hv⟩
  | iter rk rv cur =>
    obtain ⟨r, bm, ents, clk, seen, left, hg, hr, hm, hn, hleft, hsub, hnd, hk, hv, hcur⟩ := h
    refine ⟨r, bm, ents, clk, seen, left, hγ _ _ hg, hw _ _ (fun he => h1 (by simp) _ hg (by simp [hblk, he])) hr, hH _ _ hm, hn, hleft, hsub, hnd, concL_closed hH _ _ hk, concL_closed hH _ _ hv, ?_⟩
    intro c hc
    obtain ⟨e, he, h1, h2, h3⟩ := hcur c hc
    exact ⟨e, he, h1, conc_closed hH _ _ h2, conc_closed hH _ _ h3⟩
  | gone => trivial
theorem entryOK_blk {i : Nat} {e : OE} {v : Value} {b : Nat} (h : EntryOK γ H w i e) (hne : e ≠ .gone) (hv : γ[i]? = some v) (hb : hblk v = some b) : b < w.heap.size := by
  have lt : ∀ o, w.heap[b]? = some o → b < w.heap.size := fun o h => (Array.getElem?_eq_some_iff.1 h).1
  cases e with
  | obj h0 o => obtain ⟨b', hg, hb', _⟩ := h; rw [hg] at hv; cases hv; simp [hblk] at hb; subst hb; exact lt _ hb'
  | box h0 T cs => obtain ⟨b', vs, hg, hb', _⟩ := h; rw [hg] at hv; cases hv; simp [hblk] at hb; subst hb; exact lt _ hb'
  | row T k xs =>
    rcases h with ⟨_, hg⟩ | ⟨b', cap, cs, vs, hg, _, _, hb', _⟩
    · rw [hg] at hv; cases hv; simp [hblk] at hb
    · rw [hg] at hv; cases hv; simp [hblk] at hb; subst hb; exact lt _ hb'
  | map ks vs => obtain ⟨b', ents, clk, es, hg, ⟨hb', _⟩, _⟩ := h; rw [hg] at hv; cases hv; simp [hblk] at hb; subst hb; exact lt _ hb'
  | iter rk rv cur => obtain ⟨r, bm, ents, clk, seen, left, hg, hr, _⟩ := h; rw [hg] at hv; cases hv; simp [hblk] at hb; subst hb; exact lt _ hr
  | gone => exact absurd rfl hne
theorem OwnOK.hnone (h : OwnOK B γ H own w) : H w.heap.size = none := by
  cases hh : H w.heap.size with
  | none => rfl
  | some o => have := (Array.getElem?_eq_some_iff.1 (h.fro _ _ hh)).1; omega
theorem OwnOK.world (h : OwnOK B γ H own w) (hh : w'.heap = w.heap) (ho : w'.os = w.os) (ht : w'.tape = w.tape) (hp : Fwd w w') : OwnOK B γ H own w' := by
  refine ⟨ho.trans h.os, ht.trans h.tape, hp.trans h.output, by rw [hh]; exact h.size, fun b hb hv => by rw [hh]; exact h.keep b hb hv, h.hle, h.hdom, fun b o hb => by rw [hh]; exact h.fro b o hb, h.len, fun i e he => ?_, h.free, h.newb, h.apart⟩
  refine entryOK_map (w := w) (b := w.heap.size) (Ext.refl γ) (HLe.refl H) (fun k o _ hk => by rw [hh]; exact hk) (fun hne v hv hb => ?_) (h.ent i e he)
  · have := entryOK_blk (h.ent i e he) hne hv hb; omega
theorem getElem?_push_old {a : Array Obj} {o o' : Obj} {k : Nat} (h : a[k]? = some o) : (a.push o')[k]? = some o := by
  have := (Array.getElem?_eq_some_iff.1 h).1
  rw [Array.getElem?_push, if_neg (by omega)]; exact h
theorem push_keep {a : Array Obj} {o' : Obj} {k : Nat} (h : k < a.size) : (a.push o')[k]? = a[k]? := by
  rw [Array.getElem?_push, if_neg (by omega)]
theorem OwnOK.alloc (h : OwnOK B γ H own w) {o : Obj} {v : Value} {e : OE} (hv : hblk v = some w.heap.size) (he : EntryOK (γ ++ [v]) H (w.alloc o) own.length e) :
    OwnOK B (γ ++ [v]) H (own ++ [e]) (w.alloc o) := by
  refine ⟨h.os, h.tape, h.output, by have := h.size; show _ ≤ (w.heap.push o).size; rw [Array.size_push]; omega, fun b hb hv => (push_keep (by have := h.size; omega)).trans (h.keep b hb hv), h.hle, h.hdom, fun b o hb => getElem?_push_old (h.fro b o hb), by simp [h.len], fun i e' hi => ?_, fun i e' v' b hi hne hv' hb => ?_, fun i e' v' b hi hne hv' hb => ?_, fun i j e1 e2 v1 v2 b hij hi hj h1 h2 hv1 hv2 hb1 hb2 => ?_⟩
  · by_cases hl : i < own.length
    · rw [List.getElem?_append_left hl] at hi
      refine entryOK_map (w := w) (b := w.heap.size) (Ext.snoc γ v) (HLe.refl H) (fun k o _ hk => getElem?_push_old hk) (fun hne v hv hb => ?_) (h.ent i e' hi)
      · have := entryOK_blk (h.ent i e' hi) hne hv hb; omega
    · rw [List.getElem?_append_right (by omega)] at hi
      have : i = own.length := by
        by_cases h' : i - own.length = 0
        · omega
        · rw [List.getElem?_eq_none (by simp; omega)] at hi; simp at hi
      subst this; simp at hi; subst hi; exact he
  · by_cases hl : i < own.length
    · rw [List.getElem?_append_left hl] at hi
      rw [List.getElem?_append_left (by rw [h.len]; exact hl)] at hv'
      exact h.free i e' v' b hi hne hv' hb
    · have : i = own.length := by
        have := (List.getElem?_eq_some_iff.1 hi).1; simp at this; omega
      subst this
      rw [List.getElem?_append_right (by rw [h.len]; exact Nat.le_refl _)] at hv'
      simp [h.len] at hv'; subst hv'; rw [hv] at hb; cases hb; exact h.hnone
  · by_cases hl : i < own.length
    · rw [List.getElem?_append_left hl] at hi
      rw [List.getElem?_append_left (by rw [h.len]; exact hl)] at hv'
      exact h.newb i e' v' b hi hne hv' hb
    · have : i = own.length := by
        have := (List.getElem?_eq_some_iff.1 hi).1; simp at this; omega
      subst this
      rw [List.getElem?_append_right (by rw [h.len]; exact Nat.le_refl _)] at hv'
      simp [h.len] at hv'; subst hv'; rw [hv] at hb; cases hb; exact .inl h.size
  · have old : ∀ (i : Nat) (e' : OE) (v' : Value) (b : Nat), i < own.length → (own ++ [e])[i]? = some e' → e' ≠ OE.gone → (γ ++ [v])[i]? = some v' → hblk v' = some b → b < w.heap.size := by
      intro i e' v' b hl hi hne hv' hb
      rw [List.getElem?_append_left hl] at hi
      rw [List.getElem?_append_left (by rw [h.len]; exact hl)] at hv'
      exact entryOK_blk (h.ent i e' hi) hne hv' hb
    have new : ∀ (i : Nat) (v' : Value) (b : Nat), i < own.length + 1 → ¬ i < own.length → (γ ++ [v])[i]? = some v' → hblk v' = some b → b = w.heap.size := by
      intro i v' b hl hl' hv' hb
      have : i = own.length := by omega
      subst this
      rw [List.getElem?_append_right (by rw [h.len]; exact Nat.le_refl _)] at hv'
      simp [h.len] at hv'; subst hv'; rw [hv] at hb; cases hb; rfl
    have li := (List.getElem?_eq_some_iff.1 hi).1
    have lj := (List.getElem?_eq_some_iff.1 hj).1
    simp at li lj
    by_cases hl : i < own.length <;> by_cases hl' : j < own.length
    · rw [List.getElem?_append_left hl] at hi
      rw [List.getElem?_append_left (by rw [h.len]; exact hl)] at hv1
      rw [List.getElem?_append_left hl'] at hj
      rw [List.getElem?_append_left (by rw [h.len]; exact hl')] at hv2
      exact h.apart i j e1 e2 v1 v2 b hij hi hj h1 h2 hv1 hv2 hb1 hb2
    · have a1 := old i e1 v1 b hl hi h1 hv1 hb1
      have a2 := new j v2 b lj hl' hv2 hb2
      omega
    · have a1 := old j e2 v2 b hl' hj h2 hv2 hb2
      have a2 := new i v1 b li hl hv1 hb1
      omega
    · omega
def HP.put (H : HP) (b : Nat) (o : Obj) : HP := fun k => if k = b then some o else H k
theorem HP.put_le (H : HP) {b : Nat} {o : Obj} (h : H b = none) : HLe H (H.put b o) := fun k o' hk => by
  unfold HP.put; split
  · rename_i e; subst e; rw [h] at hk; cases hk
  · exact hk
theorem HP.put_same (H : HP) (b : Nat) (o : Obj) : H.put b o b = some o := by simp [HP.put]
theorem OwnOK.frozen (h : OwnOK B γ H own w) (o : Obj) : OwnOK B γ (H.put w.heap.size o) own (w.alloc o) := by
  have hle := HP.put_le H (o := o) h.hnone
  refine ⟨h.os, h.tape, h.output, by have := h.size; show _ ≤ (w.heap.push o).size; rw [Array.size_push]; omega, fun b hb hv => (push_keep (by have := h.size; omega)).trans (h.keep b hb hv), fun b o' hb => hle _ _ (h.hle _ _ hb), fun b o' hb hlt => ?_, fun b o' hb => ?_, h.len, fun i e hi => ?_, fun i e v b hi hne hv hb => ?_, h.newb, h.apart⟩
  · have := h.size
    unfold HP.put at hb; rw [if_neg (by omega)] at hb; exact h.hdom b o' hb hlt
  · unfold HP.put at hb; split at hb
    · rename_i e; subst e; cases hb; show (w.heap.push o)[w.heap.size]? = _; simp
    · exact getElem?_push_old (h.fro _ _ hb)
  · refine entryOK_map (w := w) (b := w.heap.size) (Ext.refl γ) hle (fun k o _ hk => getElem?_push_old hk) (fun hne v hv hb => ?_) (h.ent i e hi)
    · have := entryOK_blk (h.ent i e hi) hne hv hb; omega
  · have := entryOK_blk (h.ent i e hi) hne hv hb
    unfold HP.put; rw [if_neg (by omega)]; exact h.free i e v b hi hne hv hb
theorem OwnOK.upd (h : OwnOK B γ H own w) {i : Nat} {e e' : OE} {v : Value} {b : Nat} (hi : own[i]? = some e) (hne : e ≠ .gone) (hv : γ[i]? = some v) (hb : hblk v = some b)
    (hw : ∀ k, k ≠ b → w'.heap[k]? = w.heap[k]?) (hsz : w'.heap.size = w.heap.size) (ho : w'.os = w.os) (ht : w'.tape = w.tape) (hp : w'.output = w.output) (he : EntryOK γ H w' i e') (hdr : w.drawn ≤ w'.drawn := by exact Nat.le_refl _) :
    OwnOK B γ H (own.set i e') w' := by
  have hHb := h.free i e v b hi hne hv hb
  refine ⟨ho.trans h.os, ht.trans h.tape, Fwd.trans ⟨hp, hdr⟩ h.output, by rw [hsz]; exact h.size, fun k hk hkv => ?_, h.hle, h.hdom, fun k o hk => ?_, by simp [h.len], fun j ej hj => ?_, fun j ej vj bj hj hnej hvj hbj => ?_, fun j ej vj bj hj hnej hvj hbj => ?_, ?_⟩
  · have hkb : k ≠ b := by
      rintro rfl
      rcases h.newb i e v k hi hne hv hb with h1 | ⟨u, hu, hub⟩
      · omega
      · exact hkv u hu hub
    rw [hw k hkb]; exact h.keep k hk hkv
  · rw [hw k (fun e => by subst e; rw [hHb] at hk; cases hk)]; exact h.fro k o hk
  · by_cases hij : i = j
    · subst hij
      have := (List.getElem?_eq_some_iff.1 hi).1
      rw [List.getElem?_set_self (by omega)] at hj; cases hj; exact he
    · rw [List.getElem?_set_ne hij] at hj
      refine entryOK_map (w := w) (b := b) (Ext.refl γ) (HLe.refl H) (fun k o hk hk' => by rw [hw k hk]; exact hk') (fun hnej vj hvj hbj => ?_) (h.ent j ej hj)
      · exact h.apart i j e ej v vj b hij hi hj hne hnej hv hvj hb hbj
  · by_cases hij : i = j
    · subst hij; rw [hv] at hvj; cases hvj; rw [hb] at hbj; cases hbj; exact hHb
    · rw [List.getElem?_set_ne hij] at hj; exact h.free j ej vj bj hj hnej hvj hbj
  · by_cases hij : i = j
    · subst hij; rw [hv] at hvj; cases hvj; exact h.newb i e v bj hi hne hv hbj
    · rw [List.getElem?_set_ne hij] at hj; exact h.newb j ej vj bj hj hnej hvj hbj
  · intro j1 j2 e1 e2 v1 v2 b' hij h1 h2 hn1 hn2 hv1 hv2 hb1 hb2
    have old : ∀ (j : Nat) (ej : OE), (own.set i e')[j]? = some ej → ej ≠ OE.gone → ∃ ej', own[j]? = some ej' ∧ ej' ≠ OE.gone := by
      intro j ej hj hnj
      by_cases hij : i = j
      · subst hij; exact ⟨e, hi, hne⟩
      · rw [List.getElem?_set_ne hij] at hj; exact ⟨ej, hj, hnj⟩
    obtain ⟨e1', h1', hn1'⟩ := old j1 e1 h1 hn1
    obtain ⟨e2', h2', hn2'⟩ := old j2 e2 h2 hn2
    exact h.apart j1 j2 e1' e2' v1 v2 b' hij h1' h2' hn1' hn2' hv1 hv2 hb1 hb2
end Go.Fw

namespace Go.Fw

inductive EV where
  | av (x : AV)
  | gd (s : Nat) (b : Bool) (x : AV)
abbrev Rho := Nat → Option EV
abbrev GTab := List (Nat × List AV)
def look (ρ : Rho) (g : Option (Nat × Bool)) (t : Nat) : Option AV :=
  match ρ t with
  | some (.av x) => some x
  | some (.gd s b x) => match g with
    | some (s', b') => bif (s == s') && (b == b') then some x else none
    | none => none
  | none => none
def AV.ofV1 : Value → Option AV
  | .int k n => some (.int k n)
  | .bool b => some (.bool b)
  | .string s => some (.str s)
  | .slice none 0 0 => some .nsl
  | .nilIface => some .nilif
  | .nilFunc => some .nilfn
  | .pointer none => some .nilp
  | .map none => some .nmp
  | _ => none
def AV.ofVL : List Value → Option (List AV)
  | [] => some []
  | v :: vs => match AV.ofV1 v, AV.ofVL vs with
    | some x, some xs => some (x :: xs)
    | _, _ => none
def AV.ofV : Value → Option AV
  | .agg cs => (AV.ofVL cs.toList).map AV.agg
  | v => AV.ofV1 v
def opnd (G : GTab) (ρ : Rho) (g : Option (Nat × Bool)) : Operand → Option AV
  | .tmp t => look ρ g t
  | .const v => AV.ofV v
  | .global n => (G.lookup n).map fun cs => .fp cs 0
  | .func f => some (.fn (.func f) [] [])
def opnds (G : GTab) (ρ : Rho) (g : Option (Nat × Bool)) : List Operand → Option (List AV)
  | [] => some []
  | x :: xs => match opnd G ρ g x, opnds G ρ g xs with
    | some a, some as => some (a :: as)
    | _, _ => none
def AV.one : AV → Bool
  | .agg _ | .tup _ => false
  | _ => true
def aggD : TypeDesc → Bool
  | .struct _ | .array _ _ => true
  | _ => false
def loadAV (P : Program) (T : TypeId) (cs : List AV) (off : Nat) : Option AV :=
  match P.underlying T, P.info? T with
  | some d, some i => bif aggD d then (bif Nat.ble (off + i.size) cs.length then some (.agg ((cs.drop off).take i.size)) else none) else cs[off]?
  | _, _ => none
def storeAV (P : Program) (T : TypeId) (cs : List AV) (off : Nat) (v : AV) : Option (List AV) :=
  match P.info? T with
  | some i => bif (i.size == v.cells.length) && Nat.ble (off + i.size) cs.length && v.cells.all AV.one then some (cs.take off ++ v.cells ++ cs.drop (off + i.size)) else none
  | none => none
inductive Req where
  | val (v : AV) (ob : Option Prop)
  | rd (i : Nat) (f : OE → Option (AV × Option Prop))
  | all (f : List OE → Option (AV × Option Prop))
  | wr (i : Nat) (f : OE → Option (OE × Option Prop))
  | ext (e : OE) (f : Nat → AV) (ob : Option Prop)
  | mv (i : Nat) (f : OE → Option (OE × Option Prop))
  | opn (f : List OE → Option (List OE × AV × Option Prop))
def stepReq (own : List OE) : Req → Option (List OE × AV × Option Prop)
  | .val v ob => some (own, v, ob)
  | .rd i f => match own[i]? with
    | some e => (f e).map fun r => (own, r.1, r.2)
    | none => none
  | .all f => (f own).map fun r => (own, r.1, r.2)
  | .wr i f => match own[i]? with
    | some e => (f e).map fun r => (own.set i r.1, .tup [], r.2)
    | none => none
  | .ext e f ob => some (own ++ [e], f own.length, ob)
  | .mv i f => match own[i]? with
    | some e => (f e).map fun r => (own.set i .gone ++ [r.1], .osl own.length, r.2)
    | none => none
  | .opn f => f own
def pickAV (t : Bool) (x y : Option AV) : Option AV :=
  match x, y with
  | some (.bool a), some (.bool b) => some (.bool (bif t then a else b))
  | some (.int k a), some (.int k' b) => if k = k' then some (.int k (bif t then a else b)) else none
  | x, y => match t with
    | true => x
    | false => y
def ptrAdd : AV → Nat → Option AV
  | .box i o, n => some (.box i (o + n))
  | .fp l o, n => some (.fp l (o + n))
  | .elp i o, n => some (.elp i (o + n))
  | _, _ => none
def fieldOf (P : Program) (sT : TypeId) (f : Nat) : Option (Nat × TypeId × Nat) :=
  match P.underlying sT with
  | some (.struct fields) => match fields[f]? with
    | some fd => match P.info? fd.type with
      | some i => some (fd.offset, fd.type, i.size)
      | none => none
    | none => none
  | _ => none
def binAV (op : BinOp) : AV → AV → Option AV
  | .int k a, .int k' b => if k = k' then
      match op with
      | .add => some (.int k (k.wrap (a + b)))
      | .sub => some (.int k (k.wrap (a - b)))
      | .mul => some (.int k (k.wrap (a * b)))
      | .eql => some (.bool (a == b))
      | .neq => some (.bool (a != b))
      | .lss => some (.bool (decide (a < b)))
      | .leq => some (.bool (decide (a ≤ b)))
      | .gtr => some (.bool (decide (a > b)))
      | .geq => some (.bool (decide (a ≥ b)))
      | _ => none
    else none
  | _, _ => none
def unAV (op : UnOp) : AV → Option AV
  | .bool b => match op with | .not => some (.bool (!b)) | _ => none
  | .int k a => match op with | .neg => some (.int k (k.wrap (0 - a))) | _ => none
  | _ => none
def fillAV (place : Nat → Option (Nat × Nat)) (cells : List AV) : List (Nat × AV) → Option (List AV)
  | [] => some cells
  | (i, v) :: rest => match place i with
    | none => none
    | some (off, size) => bif (v.cells.length == size) && Nat.ble (off + v.cells.length) cells.length then fillAV place (cells.take off ++ v.cells ++ cells.drop (off + v.cells.length)) rest else none
end Go.Fw

namespace Go.Fw
variable {P : Program} {B : Base} {γ : List Value} {H : HP} {own : List OE} {w : World} {a : Act} {ro : Option Nat} {o : Oper}

def Exec (P : Program) (ro : Option Nat) (o : Oper) (a : Act) (w : World) (Q : Value → World → Prop) : Prop :=
  (∃ v w', (o.semAt ro a.eval).run P w = .ok (.value v) w' ∧ Q v w') ∨ (∃ w', (o.semAt ro a.eval).run P w = .ok .skip w' ∧ Q undef w') ∨
  ∃ f args w1, (o.semAt ro a.eval).run P w = .ok (.enter f args) w1 ∧ Calls P f args w1 fun e w' => ∃ v, e = .returned v ∧ Q v w'
theorem runs_exec {T : List Frame → Machine → Prop} {b : Frame} {k : List Item} {ops : Array Oper} {i : Nat} {rest : List Nat} {Q : Value → World → Prop}
    (ho : ops[i]? = some o) (hw : Region.wanted o (yielded ops a.tmps) = true) (h : Exec P b.roundOf o a w Q)
    (hk : ∀ v w', Q v w' → Runs P T b (.inRegion ops rest :: k) (a.put o.dst v) w') : Runs P T b (.inRegion ops (i :: rest) :: k) a w := by
  rcases h with ⟨v, w', hr, hq⟩ | ⟨w', hr, hq⟩ | ⟨f, args, w1, hr, hc⟩
  · exact runs_op_value ho hw hr (hk v w' hq)
  · exact runs_op_none ho hw hr (hk _ w' hq)
  · exact runs_op_call ho hw hr hc hk
def ResP (B : Base) (γ : List Value) (H : HP) (own' : List OE) (r : AV) (v : Value) (w' : World) : Prop :=
  ∃ γ' H', Ext γ γ' ∧ HLe H H' ∧ OwnOK B γ' H' own' w' ∧ Conc γ' H' r v
theorem ResP.same (hO : OwnOK B γ H own w) {r : AV} {v : Value} (h : Conc γ H r v) : ResP B γ H own r v w := ⟨γ, H, Ext.refl γ, HLe.refl H, hO, h⟩
theorem exec_val {v : Value} {w' : World} {Q : Value → World → Prop} {s : Sem Next} (hs : o.semAt ro a.eval = s) (hr : s.run P w = .ok (.value v) w') (h : Q v w') : Exec P ro o a w Q := .inl ⟨v, w', by rw [hs]; exact hr, h⟩
theorem exec_unit {w' : World} {Q : Value → World → Prop} {s : Sem Next} (hs : o.semAt ro a.eval = s) (hr : s.run P w = .ok .skip w') (h : Q undef w') : Exec P ro o a w Q := .inr (.inl ⟨w', by rw [hs]; exact hr, h⟩)
theorem semAt_of {op : Op} (ho : o.op = op) (hd : ∀ c, op ≠ .defer c) : o.semAt ro a.eval = execOp a.eval o := Oper.semAt_eq _ _ _ (fun c => ho ▸ hd c)
theorem ex_move {x : Operand} {r : AV} (ho : o.op = .move x ∨ o.op = .assign x) (hO : OwnOK B γ H own w) (h : Conc γ H r (a.eval x)) : Exec P ro o a w (ResP B γ H own r) := by
  rcases ho with ho | ho
  all_goals
    refine exec_val (semAt_of ho (by simp)) (v := a.eval x) (w' := w) ?_ (ResP.same hO h)
    simp only [execOp, ho]; rfl
theorem conc_bool {t : Bool} {v : Value} : Conc γ H (.bool t) v ↔ v = .bool t := by simp [Conc]
theorem conc_int {k : IntKind} {n : Int} {v : Value} : Conc γ H (.int k n) v ↔ v = .int k n := by simp [Conc]
theorem conc_agg {l : List AV} {v : Value} : Conc γ H (.agg l) v ↔ ∃ vs : List Value, v = .agg ⟨vs⟩ ∧ ConcL γ H l vs := by simp [Conc]
theorem conc_tup {l : List AV} {v : Value} : Conc γ H (.tup l) v ↔ ∃ vs : List Value, v = .tuple ⟨vs⟩ ∧ ConcL γ H l vs := by simp [Conc]
theorem ex_pick {c x y : Operand} {t : Bool} {xa ya : Option AV} {r : AV} (ho : o.op = .pick c x y) (hO : OwnOK B γ H own w) (hc : Conc γ H (.bool t) (a.eval c))
    (hx : t = true → ∀ z, xa = some z → Conc γ H z (a.eval x)) (hy : t = false → ∀ z, ya = some z → Conc γ H z (a.eval y)) (h : pickAV t xa ya = some r) :
    Exec P ro o a w (ResP B γ H own r) := by
  have hce := conc_bool.1 hc
  refine exec_val (semAt_of ho (by simp)) (v := if t then a.eval x else a.eval y) (w' := w) ?_ (ResP.same hO ?_)
  · simp only [execOp, ho, hce]; cases t <;> rfl
  · unfold pickAV at h
    split at h
    · cases h; cases t
      · simpa using hy rfl _ rfl
      · simpa using hx rfl _ rfl
    · split at h
      · cases h; rename_i e; subst e; cases t
        · simpa using hy rfl _ rfl
        · simpa using hx rfl _ rfl
      · cases h
    · split at h
      · simpa using hx rfl _ h
      · simpa using hy rfl _ h
theorem one_of_conc {x : AV} {v : Value} (h : Conc γ H x v) (ho : x.one = true) : One v := by
  cases x <;> simp only [AV.one, Bool.false_eq_true] at ho <;> simp only [Conc] at h
  all_goals first
    | (subst h; exact ⟨by simp, by simp⟩)
    | (obtain ⟨_, _, _, rfl, _⟩ := h; exact ⟨by simp, by simp⟩)
    | (obtain ⟨_, _, _, _, rfl, _⟩ := h; exact ⟨by simp, by simp⟩)
    | (obtain ⟨_, _, rfl⟩ := h; exact ⟨by simp, by simp⟩)
    | (obtain ⟨_, _, _, _, rfl⟩ := h; exact ⟨by simp, by simp⟩)
    | (obtain ⟨_, _, _, _, _, _, rfl, _⟩ := h; exact ⟨by simp, by simp⟩)
    | (obtain ⟨_, _, rfl⟩ := h; exact ⟨by simp, by simp⟩)
    | (obtain ⟨_, rfl, _⟩ := h; exact ⟨by simp, by simp⟩)
    | (obtain ⟨_, _, rfl, _⟩ := h; exact ⟨by simp, by simp⟩)
    | exact h
theorem conc_cells {x : AV} {v : Value} (h : Conc γ H x v) (hx : ∀ l, x ≠ .tup l) : ConcL γ H x.cells v.cells.toList := by
  by_cases hg : ∃ l, x = .agg l
  · obtain ⟨l, rfl⟩ := hg
    obtain ⟨vs, rfl, h'⟩ := conc_agg.1 h
    exact h'
  · have h1 : x.cells = [x] := by
      cases x <;> first | rfl | exact absurd ⟨_, rfl⟩ hg
    have ho : One v := one_of_conc h (by cases x <;> first | rfl | exact absurd ⟨_, rfl⟩ hg | exact absurd rfl (hx _))
    have h2 : v.cells = #[v] := by
      cases v <;> first | rfl | exact absurd rfl (ho.1 _)
    rw [h1, h2]
    exact ⟨v, [], rfl, h, rfl⟩
theorem concL_one : ∀ {l : List AV} {vs : List Value}, ConcL γ H l vs → l.all AV.one = true → ∀ v ∈ vs, One v
  | [], vs, h, _ => by simp [ConcL] at h; simp [h]
  | x :: xs, vs, h, ho => by
    simp only [List.all_cons, Bool.and_eq_true] at ho
    obtain ⟨v, vs', rfl, hv, h'⟩ := h
    intro u hu
    rcases List.mem_cons.1 hu with rfl | hu
    · exact one_of_conc hv ho.1
    · exact concL_one h' ho.2 u hu
theorem one_cell' {v : Value} (h : One v) : v.oneCell' = true := by
  cases v <;> first | rfl | exact absurd rfl (h.1 _) | exact absurd rfl (h.2 _)
theorem seg_cell {b off : Nat} {cs : Array Value} {T : TypeId} {fz : Nat × Nat} {vs : List Value} (hb : w.heap[b]? = some (.cells cs T fz)) (hs : Seg cs off vs) (j : Nat) (v : Value) (hj : vs[j]? = some v) :
    w.cell? ((⟨b, off, none⟩ : Addr).add j) = some v := by
  have hlt := (List.getElem?_eq_some_iff.1 hj).1
  have : (⟨b, off, none⟩ : Addr).add j = ⟨b, off + j, none⟩ := by unfold Addr.add; split <;> simp_all
  rw [this]
  have h2 := hs j hlt
  simp only [World.cell?, hb]
  rw [if_neg (by simp), h2, hj]
theorem run_load_agg {T : TypeId} {d : TypeDesc} {i : TypeInfo} {b off : Nat} {cs : Array Value} {T' : TypeId} {fz : Nat × Nat} {vs : List Value} (hd : P.underlying T = some d) (ha : aggD d = true)
    (hi : P.info? T = some i) (hn : vs.length = i.size) (hb : w.heap[b]? = some (.cells cs T' fz)) (hs : Seg cs off vs) : (loadVar T ⟨b, off, none⟩).run P w = .ok (.agg ⟨vs⟩) w := by
  have h1 := run_loadCells_list (P := P) (w := w) ⟨b, off, none⟩ vs (seg_cell hb hs)
  have h2 : (isAgg T).run P w = .ok true w := by
    simp only [isAgg, Sem.run_bind, underlying, run_program, Result.andThen_ok, hd, Sem.run_pure]
    cases d <;> simp_all [aggD]
  have h3 : (sizeOf T).run P w = .ok i.size w := by simp [sizeOf, typeInfo, hi]
  simp only [loadVar, Sem.run_bind, h2, h3, Result.andThen_ok, if_true, ← hn, h1, Sem.run_pure]
theorem run_load_one {T : TypeId} {d : TypeDesc} {b off : Nat} {cs : Array Value} {T' : TypeId} {fz : Nat × Nat} {v : Value} (hd : P.underlying T = some d) (ha : aggD d = false)
    (hb : w.heap[b]? = some (.cells cs T' fz)) (hs : cs[off]? = some v) : (loadVar T ⟨b, off, none⟩).run P w = .ok v w := by
  have h2 : (isAgg T).run P w = .ok false w := by
    simp only [isAgg, Sem.run_bind, underlying, run_program, Result.andThen_ok, hd, Sem.run_pure]
    cases d <;> simp_all [aggD]
  have h1 : w.cell? ⟨b, off, none⟩ = some v := by simp [World.cell?, hb, hs]
  simp [loadVar, h2, h1]
theorem seg_take {cs : Array Value} {off n : Nat} {vs : List Value} (h : Seg cs off vs) (m : Nat) : Seg cs (off + m) ((vs.drop m).take n) := by
  intro j hj
  simp at hj
  have := h (m + j) (by omega)
  rw [show off + m + j = off + (m + j) from by omega, this, List.getElem?_take, if_pos (by omega), List.getElem?_drop]
theorem run_loadAV {T : TypeId} {l : List AV} {off : Nat} {r : AV} {b o : Nat} {cs : Array Value} {T' : TypeId} {fz : Nat × Nat} {vs : List Value} (h : loadAV P T l off = some r)
    (hb : w.heap[b]? = some (.cells cs T' fz)) (hl : ConcL γ H l vs) (hs : Seg cs o vs) : ∃ v, (loadVar T ⟨b, o + off, none⟩).run P w = .ok v w ∧ Conc γ H r v := by
  unfold loadAV at h
  split at h
  · rename_i d i hd hi
    cases ha : aggD d
    · rw [ha] at h; simp only [cond_false] at h
      obtain ⟨v, hv, hc⟩ := concL_get hl h
      exact ⟨v, run_load_one hd ha hb (by rw [hs off (List.getElem?_eq_some_iff.1 hv).1, hv]), hc⟩
    · rw [ha] at h; simp only [cond_true] at h
      cases hle : Nat.ble (off + i.size) l.length
      · rw [hle] at h; cases h
      · rw [hle] at h; simp only [cond_true, Option.some.injEq] at h; subst h
        have hle' := Nat.le_of_ble_eq_true hle
        have hlen := concL_length hl
        refine ⟨.agg ⟨(vs.drop off).take i.size⟩, run_load_agg hd ha hi (by simp; omega) hb (seg_take hs off), conc_agg.2 ⟨_, rfl, concL_take _ (concL_drop _ hl)⟩⟩
  · cases h
theorem ex_load_fp {T : TypeId} {x : Operand} {l : List AV} {off : Nat} {r : AV} (ho : o.op = .load T x) (hO : OwnOK B γ H own w) (hp : Conc γ H (.fp l off) (a.eval x))
    (h : loadAV P T l off = some r) : Exec P ro o a w (ResP B γ H own r) := by
  simp only [Conc] at hp
  obtain ⟨b, o', cs, T', fz, vs, hv, hb, hl, hs⟩ := hp
  obtain ⟨v, hr, hc⟩ := run_loadAV (w := w) (γ := γ) h (hO.fro _ _ hb) (concL_open hl) hs
  refine exec_val (semAt_of ho (by simp)) (v := v) (w' := w) ?_ (ResP.same hO hc)
  simp [execOp, ho, Instr.loadAt, hv, Instr.sureAddr, hr]
theorem ex_load_box {T : TypeId} {x : Operand} {i off : Nat} {T0 : TypeId} {l : List AV} {r : AV} (ho : o.op = .load T x) (hO : OwnOK B γ H own w) (hp : Conc γ H (.box i off) (a.eval x))
    {h0 : Option Nat} (hi : own[i]? = some (.box h0 T0 l)) (h : loadAV P T l off = some r) : Exec P ro o a w (ResP B γ H own r) := by
  simp only [Conc] at hp
  obtain ⟨b, hg, hv⟩ := hp
  obtain ⟨b', vs, hg', hb, hl, _⟩ := hO.ent _ _ hi
  rw [hg] at hg'; cases hg'
  obtain ⟨v, hr, hc⟩ := run_loadAV (w := w) (o := 0) h hb hl (fun j hj => by simp)
  rw [Nat.zero_add] at hr
  refine exec_val (semAt_of ho (by simp)) (v := v) (w' := w) ?_ (ResP.same hO hc)
  simp [execOp, ho, Instr.loadAt, hv, Instr.sureAddr, hr]
theorem setRow_at {b : Nat} {cs new : Array Value} {T : TypeId} (hb : w.heap[b]? = some (.cells cs T (0, 0))) :
    (w.setRow b new).heap[b]? = some (.cells new T (0, 0)) ∧ (∀ k, k ≠ b → (w.setRow b new).heap[k]? = w.heap[k]?) ∧ (w.setRow b new).heap.size = w.heap.size := by
  refine ⟨setRow_heap w b cs new T (0, 0) hb, fun k hk => ?_, by simp [World.setRow]⟩
  simp only [World.setRow]
  rw [Array.getElem?_modify, if_neg (Ne.symm hk)]
theorem run_storeVar {T : TypeId} {i : TypeInfo} {b off : Nat} {cs : Array Value} {T' : TypeId} {v : Value} (hi : P.info? T = some i) (hn : v.cells.size = i.size)
    (hb : w.heap[b]? = some (.cells cs T' (0, 0))) (hle : off + i.size ≤ cs.size) (h1 : ∀ x ∈ v.cells.toList, One x) :
    (storeVar T ⟨b, off, none⟩ v).run P w = .ok () (w.setRow b (cs.toList.take off ++ v.cells.toList ++ cs.toList.drop (off + i.size)).toArray) := by
  have h3 : (sizeOf T).run P w = .ok i.size w := by simp [sizeOf, typeInfo, hi]
  have := run_storeCells_at (P := P) b off T' v.cells.toList 0 cs w hb (by simp; omega) (fun x hx => one_cell' (h1 x hx))
  simp only [Nat.add_zero, Array.length_toList, hn] at this
  simp only [storeVar, Sem.run_bind, h3, Result.andThen_ok, hn, ne_eq, not_true_eq_false, if_false, Sem.run_pure, this]
theorem concL_all_splice {l l' : List AV} {vs vs' : List Value} {off n : Nat} (h : ConcL γ H l vs) (h' : ConcL γ H l' vs') :
    ConcL γ H (l.take off ++ l' ++ l.drop (off + n)) (vs.take off ++ vs' ++ vs.drop (off + n)) :=
  concL_append (concL_append (concL_take _ h) h') (concL_drop _ h)
theorem ex_store_box {T : TypeId} {x y : Operand} {i off : Nat} {T0 : TypeId} {l l' : List AV} {z : AV} (ho : o.op = .store T x y) (hO : OwnOK B γ H own w) (hp : Conc γ H (.box i off) (a.eval x))
    (hz : Conc γ H z (a.eval y)) {h0 : Option Nat} (hi : own[i]? = some (.box h0 T0 l)) (h : storeAV P T l off z = some l') : Exec P ro o a w (ResP B γ H (own.set i (.box h0 T0 l')) (.tup [])) := by
  simp only [Conc] at hp
  obtain ⟨b, hg, hv⟩ := hp
  obtain ⟨b', vs, hg', hb, hl, hone, hk0⟩ := hO.ent _ _ hi
  rw [hg] at hg'; cases hg'
  unfold storeAV at h
  split at h
  case h_2 => cases h
  rename_i inf hinf
  cases hc : (inf.size == z.cells.length) && Nat.ble (off + inf.size) l.length && z.cells.all AV.one
  · rw [hc] at h; cases h
  rw [hc] at h; simp only [cond_true, Option.some.injEq] at h; subst h
  simp only [Bool.and_eq_true, beq_iff_eq] at hc
  obtain ⟨⟨hs, hle⟩, hall⟩ := hc
  have hle' := Nat.le_of_ble_eq_true hle
  have hzt : ∀ l, z ≠ .tup l := by
    rintro l rfl; simp [AV.cells, AV.one] at hall
  have hcz := conc_cells hz hzt
  have hlz := concL_length hcz
  have hll := concL_length hl
  have h1 := concL_one hcz hall
  have hn : (a.eval y).cells.size = inf.size := by rw [← Array.length_toList, hlz, ← hs]
  have hrun := run_storeVar (P := P) (w := w) (T := T) (off := off) (v := a.eval y) hinf hn hb (by simp; omega) h1
  obtain ⟨e1, e2, e3⟩ := setRow_at (new := (vs.take off ++ (a.eval y).cells.toList ++ vs.drop (off + inf.size)).toArray) hb
  refine exec_unit (semAt_of ho (by simp)) (w' := _) ?_ ⟨γ, H, Ext.refl γ, HLe.refl H, hO.upd hi (by simp) hg rfl e2 e3 rfl rfl rfl ⟨b, _, hg, e1, concL_all_splice hl hcz, ?_, hk0⟩, conc_tup.2 ⟨[], rfl, rfl⟩⟩
  · simp only [execOp, ho, Instr.storeAt, hv, Instr.sureAddr, Sem.run_bind, Sem.run_pure, Result.andThen_ok, hrun]
  · intro u hu
    rcases List.mem_append.1 hu with hu | hu
    · rcases List.mem_append.1 hu with hu | hu
      · exact hone u (List.mem_of_mem_take hu)
      · exact h1 u hu
    · exact hone u (List.mem_of_mem_drop hu)
end Go.Fw

namespace Go.Fw
variable {P : Program} {B : Base} {γ : List Value} {H : HP} {own : List OE} {w : World} {a : Act} {ro : Option Nat} {o : Oper}

theorem conc_ofV1 {v : Value} {x : AV} (h : AV.ofV1 v = some x) : Conc γ H x v := by
  unfold AV.ofV1 at h
  split at h <;> first | (cases h; simp [Conc]; done) | (cases h)
theorem concL_ofVL : ∀ {vs : List Value} {l : List AV}, AV.ofVL vs = some l → ConcL γ H l vs
  | [], l, h => by simp [AV.ofVL] at h; subst h; rfl
  | v :: vs, l, h => by
    unfold AV.ofVL at h
    split at h
    · rename_i x xs hx hxs
      cases h; exact ⟨v, vs, rfl, conc_ofV1 hx, concL_ofVL hxs⟩
    · cases h
theorem conc_ofV {v : Value} {x : AV} (h : AV.ofV v = some x) : Conc γ H x v := by
  unfold AV.ofV at h
  split at h
  · rename_i cs
    cases hl : AV.ofVL cs.toList with
    | none => rw [hl] at h; cases h
    | some l => rw [hl] at h; cases h; exact conc_agg.2 ⟨cs.toList, by simp, concL_ofVL hl⟩
  · exact conc_ofV1 h
theorem concL_cells_one {x : AV} {v : Value} (h : Conc γ H x v) (hx : x.cells.all AV.one = true) : ConcL γ H x.cells v.cells.toList ∧ ∀ u ∈ v.cells.toList, One u := by
  have ht : ∀ l, x ≠ .tup l := by rintro l rfl; simp [AV.cells, AV.one] at hx
  have h1 := conc_cells h ht
  exact ⟨h1, concL_one h1 hx⟩
theorem entry_box_new {T : TypeId} {x : AV} {v : Value} (hO : OwnOK B γ H own w) (h : Conc γ H x v) (hx : x.cells.all AV.one = true) :
    OwnOK B (γ ++ [.pointer (some ⟨w.heap.size, 0, none⟩)]) H (own ++ [.box none T x.cells]) (w.alloc (.cells v.cells T)) := by
  obtain ⟨h1, h2⟩ := concL_cells_one h hx
  refine hO.alloc rfl ⟨w.heap.size, v.cells.toList, by simp [← hO.len], by show (w.heap.push _)[w.heap.size]? = _; simp, concL_mono (HLe.refl H) (Ext.snoc γ _) h1, h2, by simp⟩
theorem conc_new_box : Conc (γ ++ [.pointer (some ⟨w.heap.size, 0, none⟩)]) H (.box γ.length 0) (.pointer (some ⟨w.heap.size, 0, none⟩)) := by
  simp [Conc]
theorem ex_box {T : TypeId} {x : Operand} {z : AV} (ho : o.op = .box T x) (hO : OwnOK B γ H own w) (hz : Conc γ H z (a.eval x)) (h1 : z.cells.all AV.one = true) :
    Exec P ro o a w (ResP B γ H (own ++ [.box none T z.cells]) (.box own.length 0)) := by
  refine exec_val (semAt_of ho (by simp)) (v := .pointer (some ⟨w.heap.size, 0, none⟩)) (w' := w.alloc (.cells (a.eval x).cells T)) ?_ ⟨_, H, Ext.snoc γ _, HLe.refl H, entry_box_new hO hz h1, ?_⟩
  · simp [execOp, ho, Instr.box, newVar, newRow]
  · rw [← hO.len]; exact conc_new_box
theorem ex_alloc {T : TypeId} {i : TypeInfo} {v : Value} {z : AV} (ho : o.op = .alloc T) (hO : OwnOK B γ H own w) (hi : P.info? T = some i) (hv : i.zero = some v) (hz : AV.ofV v = some z) (h1 : z.cells.all AV.one = true) :
    Exec P ro o a w (ResP B γ H (own ++ [.box none T z.cells]) (.box own.length 0)) := by
  refine exec_val (semAt_of ho (by simp)) (v := .pointer (some ⟨w.heap.size, 0, none⟩)) (w' := w.alloc (.cells v.cells T)) ?_ ⟨_, H, Ext.snoc γ _, HLe.refl H, entry_box_new hO (conc_ofV hz) h1, ?_⟩
  · simp [execOp, ho, Instr.alloc, zeroValue, typeInfo, hi, hv, newVar, newRow]
  · rw [← hO.len]; exact conc_new_box
theorem ex_makeMap {t : TypeId} (ho : o.op = .makeMap t none) (hO : OwnOK B γ H own w) : Exec P ro o a w (ResP B γ H (own ++ [.map [] []]) (.mp own.length)) := by
  refine exec_val (semAt_of ho (by simp)) (v := .map (some w.heap.size)) (w' := w.alloc (.map #[] 0)) ?_ ⟨γ ++ [.map (some w.heap.size)], H, Ext.snoc γ _, HLe.refl H, hO.alloc rfl ?_, ?_⟩
  · simp [execOp, ho, Instr.makeMap]
  · refine ⟨w.heap.size, #[], 0, [], by simp [← hO.len], ⟨by show (w.heap.push _)[w.heap.size]? = _; simp, by simp, by simp⟩, by simp, by simp [ConcL], by simp [ConcL]⟩
  · rw [← hO.len]; simp [Conc]
theorem ex_nilCheck {x : Operand} {z : AV} (ho : o.op = .nilCheck x) (hO : OwnOK B γ H own w) (hz : Conc γ H z (a.eval x)) (hp : ∃ ad, a.eval x = .pointer (some ad)) : Exec P ro o a w (ResP B γ H own z) := by
  obtain ⟨ad, hp⟩ := hp
  refine exec_val (semAt_of ho (by simp)) (v := a.eval x) (w' := w) ?_ (ResP.same hO hz)
  simp [execOp, ho, hp]
theorem ex_extract {x : Operand} {l : List AV} {j : Nat} {r : AV} (ho : o.op = .extract x j) (hO : OwnOK B γ H own w) (hz : Conc γ H (.tup l) (a.eval x)) (hj : l[j]? = some r) : Exec P ro o a w (ResP B γ H own r) := by
  obtain ⟨vs, hv, hl⟩ := conc_tup.1 hz
  obtain ⟨v, hv', hc⟩ := concL_get hl hj
  refine exec_val (semAt_of ho (by simp)) (v := v) (w' := w) ?_ (ResP.same hO hc)
  simp [execOp, ho, Instr.extract, hv, hv']
theorem ex_makeFunc {f : Fn} {xs ys : Array Operand} {fs cs : List AV} (ho : o.op = .makeFunc f xs ys) (hO : OwnOK B γ H own w) (h1 : ConcL γ H fs (xs.toList.map a.eval)) (h2 : ConcL γ H cs (ys.toList.map a.eval)) :
    Exec P ro o a w (ResP B γ H own (.fn f fs cs)) := by
  refine exec_val (semAt_of ho (by simp)) (v := .func f (xs.map a.eval) (ys.map a.eval)) (w' := w) ?_ (ResP.same hO ?_)
  · simp [execOp, ho, Instr.makeFunc]
  · simp only [Conc]
    exact ⟨xs.toList.map a.eval, ys.toList.map a.eval, by congr 1 <;> (apply Array.ext'; simp), h1, h2⟩
theorem ex_unOp {op : UnOp} {t : TypeId} {x : Operand} {z r : AV} (ho : o.op = .unOp op t x) (hO : OwnOK B γ H own w) (hz : Conc γ H z (a.eval x)) (h : unAV op z = some r) : Exec P ro o a w (ResP B γ H own r) := by
  unfold unAV at h
  split at h
  · split at h
    · cases h; have := conc_bool.1 hz
      refine exec_val (semAt_of ho (by simp)) (v := _) (w' := w) ?_ (ResP.same hO (conc_bool.2 rfl))
      simp [execOp, ho, Op.unary, this]
    · cases h
  · split at h
    · cases h; have := conc_int.1 hz
      refine exec_val (semAt_of ho (by simp)) (v := _) (w' := w) ?_ (ResP.same hO (conc_int.2 rfl))
      simp [execOp, ho, Op.unary, this, Op.intArith]
    · cases h
  · cases h
theorem ex_binOp {op : BinOp} {t t' : TypeId} {x y : Operand} {z u r : AV} (ho : o.op = .binOp op t x y t') (hO : OwnOK B γ H own w) (hz : Conc γ H z (a.eval x)) (hu : Conc γ H u (a.eval y)) (h : binAV op z u = some r) :
    Exec P ro o a w (ResP B γ H own r) := by
  unfold binAV at h
  split at h
  case h_2 => cases h
  split at h
  case isFalse => cases h
  rename_i k m k' n e; subst e
  have e1 := conc_int.1 hz
  have e2 := conc_int.1 hu
  have hg : ∀ op, (eqGuard op t x y (.int k m) (.int k n)).run P w = .ok () w := by
    intro op; simp only [eqGuard]; split <;> rfl
  split at h <;> first | (cases h; done) | (simp only [Option.some.injEq] at h; subst h)
  all_goals first
    | (refine exec_val (semAt_of ho (by simp)) (v := _) (w' := w) ?_ (ResP.same hO (conc_int.2 rfl))
       simp only [execOp, ho, e1, e2, Sem.run_bind, hg, Result.andThen_ok]
       simp [binOp, Op.intArith]; done)
    | (refine exec_val (semAt_of ho (by simp)) (v := _) (w' := w) ?_ (ResP.same hO (conc_bool.2 rfl))
       simp only [execOp, ho, e1, e2, Sem.run_bind, hg, Result.andThen_ok]
       simp [binOp, Op.intCmp]; done)
theorem ex_convert {s d : TypeId} {x : Operand} {k k' : IntKind} {n : Int} {td : TypeDesc} (ho : o.op = .convert s d x) (hO : OwnOK B γ H own w) (hz : Conc γ H (.int k n) (a.eval x)) (hs : P.underlying s = some td)
    (hd : P.underlying d = some (.int k')) : Exec P ro o a w (ResP B γ H own (.int k' (k'.wrap n))) := by
  have e1 := conc_int.1 hz
  refine exec_val (semAt_of ho (by simp)) (v := .int k' (k'.wrap n)) (w' := w) ?_ (ResP.same hO (conc_int.2 rfl))
  have h1 : (underlying s).run P w = .ok td w := by simp [underlying, hs]
  have h2 : (underlying d).run P w = .ok (.int k') w := by simp [underlying, hd]
  simp only [execOp, ho, e1, convert, Sem.run_bind, h1, h2, Result.andThen_ok]
  cases td <;> rfl
theorem ptr_add {z : AV} {n : Nat} {r : AV} (h : ptrAdd z n = some r) {v : Value} (hz : Conc γ H z v) : ∃ b off, v = .pointer (some ⟨b, off, none⟩) ∧ Conc γ H r (.pointer (some ⟨b, off + n, none⟩)) := by
  unfold ptrAdd at h
  split at h
  · cases h; simp only [Conc] at hz ⊢; obtain ⟨b, hg, rfl⟩ := hz; exact ⟨b, _, rfl, b, hg, rfl⟩
  · cases h; simp only [Conc] at hz ⊢; obtain ⟨b, o', cs, T, fz, vs, rfl, h1⟩ := hz; exact ⟨b, _, rfl, b, o', cs, T, fz, vs, by rw [Nat.add_assoc], h1⟩
  · cases h; simp only [Conc] at hz ⊢; obtain ⟨b, m, c, hg, rfl⟩ := hz; exact ⟨b, _, rfl, b, m, c, hg, rfl⟩
  · cases h
theorem addr_add (b off n : Nat) : (⟨b, off, none⟩ : Addr).add n = ⟨b, off + n, none⟩ := by unfold Addr.add; split <;> simp_all
theorem ex_fieldAddr {sT : TypeId} {x : Operand} {j : Nat} {off : Nat} {fT : TypeId} {sz : Nat} {z r : AV} (ho : o.op = .fieldAddr sT x j) (hO : OwnOK B γ H own w) (hz : Conc γ H z (a.eval x))
    (hf : fieldOf P sT j = some (off, fT, sz)) (hsz : Nat.ble 1 sz = true) (h : ptrAdd z off = some r) : Exec P ro o a w (ResP B γ H own r) := by
  obtain ⟨b, o', hv, hc⟩ := ptr_add h hz
  unfold fieldOf at hf
  split at hf
  case h_2 => cases hf
  rename_i fields hu
  split at hf
  case h_2 => cases hf
  rename_i fd hfd
  split at hf
  case h_2 => cases hf
  rename_i i hi
  cases hf
  have hsz' := Nat.le_of_ble_eq_true hsz
  refine exec_val (semAt_of ho (by simp)) (v := .pointer (some ⟨b, o' + fd.offset, none⟩)) (w' := w) ?_ (ResP.same hO hc)
  have h1 : (underlying sT).run P w = .ok (.struct fields) w := by simp [underlying, hu]
  have h2 : (sizeOf fd.type).run P w = .ok i.size w := by simp [sizeOf, typeInfo, hi]
  simp only [execOp, ho, hv, Instr.fieldAt, Sem.run_bind, h1, Result.andThen_ok, hfd, Instr.sureAddr, Sem.run_pure, fieldPlace, h2]
  rw [if_neg (by omega)]
  simp [addr_add]
theorem ex_field {sT : TypeId} {x : Operand} {j : Nat} {off : Nat} {fT : TypeId} {sz : Nat} {l : List AV} {r : AV} (ho : o.op = .field sT x j) (hO : OwnOK B γ H own w) (hz : Conc γ H (.agg l) (a.eval x))
    (hf : fieldOf P sT j = some (off, fT, sz)) (h : loadAV P fT l off = some r) : Exec P ro o a w (ResP B γ H own r) := by
  obtain ⟨vs, hv, hl⟩ := conc_agg.1 hz
  unfold fieldOf at hf
  split at hf
  case h_2 => cases hf
  rename_i fields hu
  split at hf
  case h_2 => cases hf
  rename_i fd hfd
  split at hf
  case h_2 => cases hf
  rename_i i hi
  cases hf
  have h1 : (underlying sT).run P w = .ok (.struct fields) w := by simp [underlying, hu]
  have hp : ∃ v, (part fd.type ⟨vs⟩ fd.offset).run P w = .ok v w ∧ Conc γ H r v := by
    unfold loadAV at h
    split at h
    · rename_i d i' hd hi'
      have h3 : (sizeOf fd.type).run P w = .ok i'.size w := by simp [sizeOf, typeInfo, hi']
      cases ha : aggD d
      · rw [ha] at h; simp only [cond_false] at h
        obtain ⟨v, hv', hc⟩ := concL_get hl h
        have h2 : (isAgg fd.type).run P w = .ok false w := by
          simp only [isAgg, Sem.run_bind, underlying, run_program, Result.andThen_ok, hd, Sem.run_pure]
          cases d <;> simp_all [aggD]
        refine ⟨v, ?_, hc⟩
        simp [part, h2, hv']
      · rw [ha] at h; simp only [cond_true] at h
        have h2 : (isAgg fd.type).run P w = .ok true w := by
          simp only [isAgg, Sem.run_bind, underlying, run_program, Result.andThen_ok, hd, Sem.run_pure]
          cases d <;> simp_all [aggD]
        cases hle : Nat.ble (fd.offset + i'.size) l.length
        · rw [hle] at h; cases h
        · rw [hle] at h; simp only [cond_true, Option.some.injEq] at h; subst h
          refine ⟨.agg ⟨(vs.drop fd.offset).take i'.size⟩, ?_, conc_agg.2 ⟨_, rfl, concL_take _ (concL_drop _ hl)⟩⟩
          simp [part, h2, h3, List.extract_eq_take_drop]
    · cases h
  obtain ⟨v, hr, hc⟩ := hp
  refine exec_val (semAt_of ho (by simp)) (v := v) (w' := w) ?_ (ResP.same hO hc)
  simp only [execOp, ho, hv, Instr.field, Sem.run_bind, h1, Result.andThen_ok, hfd, asAgg, Sem.run_pure, hr]
end Go.Fw

namespace Go.Fw
variable {P : Program} {B : Base} {γ : List Value} {H : HP} {own : List OE} {w : World} {a : Act} {ro : Option Nat} {o : Oper}

def GOK (G : GTab) (H : HP) : Prop := ∀ p ∈ G, Conc [] H (.fp p.2 0) (.pointer (some ⟨p.1, 0, none⟩))
theorem GOK.mono {G : GTab} {H H' : HP} (h : GOK G H) (hH : HLe H H') : GOK G H' := fun p hp => conc_closed hH _ _ (h p hp)
def BodyOK (P : Program) (f : FuncId) : Prop := ∃ fn, P.funcs[f]? = some fn ∧ fn.body.isSome = true ∧ fn.name ≠ "runtime.NumGoroutine"
def RetOK (wc : World) (H0 : HP) (r : AV) (e : Ending) (w' : World) : Prop := ∃ v, e = .returned v ∧ ∃ H', OwnOK ⟨wc, H0, [], []⟩ [] H' [] w' ∧ Conc [] H' r v
def CallA (P : Program) (G : GTab) (f : FuncId) (args : List AV) (r : AV) : Prop := BodyOK P f ∧
  ∀ (wc : World) (H0 : HP) (vs : List Value), HLe H0 (fun b => wc.heap[b]?) → GOK G H0 → ConcL [] H0 args vs → Calls P f ⟨vs⟩ wc (RetOK wc H0 r)
theorem OwnOK.hsub (h : OwnOK B γ H own w) : HLe H (fun b => w.heap[b]?) := fun b o hb => h.fro b o hb
theorem OwnOK.called {H' : HP} {w' : World} (h : OwnOK B γ H own w) (hc : OwnOK ⟨w, H, [], []⟩ [] H' [] w') : OwnOK B γ H' own w' := by
  have keep : ∀ b, b < w.heap.size → w'.heap[b]? = w.heap[b]? := fun b hb => hc.keep b hb (by simp)
  have lt : ∀ {b : Nat} {o : Obj}, w.heap[b]? = some o → b < w.heap.size := fun h => (Array.getElem?_eq_some_iff.1 h).1
  refine ⟨hc.os.trans h.os, hc.tape.trans h.tape, hc.output.trans h.output, Nat.le_trans h.size hc.size, fun b hb hv => (keep b (Nat.lt_of_lt_of_le hb h.size)).trans (h.keep b hb hv), fun b o hb => hc.hle b o (h.hle b o hb),
    fun b o hb hlt => h.hdom b o (hc.hdom b o hb (Nat.lt_of_lt_of_le hlt h.size)) hlt, hc.fro, h.len, fun i e he => ?_, fun i e v b hi hne hv hb => ?_, h.newb, h.apart⟩
  · refine entryOK_map (w := w) (b := w.heap.size) (Ext.refl γ) (fun b o hb => hc.hle b o hb) (fun k o _ hk => by rw [keep k (lt hk)]; exact hk) (fun hne v hv hb => ?_) (h.ent i e he)
    have := entryOK_blk (h.ent i e he) hne hv hb; omega
  · have hlt := entryOK_blk (h.ent i e hi) hne hv hb
    cases hh : H' b with
    | none => rfl
    | some o => have h1 : H b = some o := hc.hdom b o hh hlt; rw [h.free i e v b hi hne hv hb] at h1; cases h1
theorem callFunc_run {f : FuncId} (hb : BodyOK P f) (args : Array Value) : (callFunc f args).run P w = .ok (.enter f args) w := by
  obtain ⟨fn, hf, hs, hn⟩ := hb
  have h2 : fn.body ≠ none := by intro h; rw [h] at hs; cases hs
  simp [callFunc, hf, hn, h2]
theorem ex_call {G : GTab} {x : Operand} {xs : Array Operand} {tys : Array TypeId} {f : FuncId} {fs cs as : List AV} {r : AV} (ho : o.op = .call { callee := .value x, args := xs, argTypes := tys })
    (hO : OwnOK B γ H own w) (hG : GOK G H) (hx : Conc γ H (.fn (.func f) fs cs) (a.eval x)) (has : ConcL γ H as (xs.toList.map a.eval)) (hcl : AV.closedL (fs ++ as ++ cs) = true)
    (hr : r.closed = true) (hc : CallA P G f (fs ++ as ++ cs) r) : Exec P ro o a w (ResP B γ H own r) := by
  simp only [Conc] at hx
  obtain ⟨ws, us, hv, h1, h2⟩ := hx
  have hargs : ConcL γ H (fs ++ as ++ cs) (ws ++ xs.toList.map a.eval ++ us) := concL_append (concL_append h1 has) h2
  refine .inr (.inr ⟨f, ⟨ws ++ xs.toList.map a.eval ++ us⟩, w, ?_, ?_⟩)
  · rw [semAt_of ho (by simp)]
    have : (Array.mk ws ++ Array.map a.eval xs ++ Array.mk us) = (⟨ws ++ xs.toList.map a.eval ++ us⟩ : Array Value) := by apply Array.ext'; simp
    simp only [execOp, ho, resolve, Sem.run_bind, Deferred.ofValue, hv, Sem.run_pure, Result.andThen_ok, invoke]
    rw [callFunc_run hc.1, this]
  · refine (hc.2 w H _ hO.hsub hG (concL_close _ _ hcl hargs)).mono ?_
    rintro e w' ⟨v, rfl, H', hO', hcv⟩
    exact ⟨v, rfl, γ, H', Ext.refl γ, fun b o hb => hO'.hle b o hb, hO.called hO', conc_open hcv⟩
def AV.scalar : AV → Bool
  | .int _ _ | .bool _ | .str _ | .nsl | .nilfn | .nilif | .nilp | .nmp => true
  | _ => false
mutual
def AV.plain : AV → Bool
  | .agg l => AV.plainL l
  | .tup l => AV.plainL l
  | .iface _ x => AV.plain x
  | x => x.scalar
def AV.plainL : List AV → Bool
  | [] => true
  | x :: xs => AV.plain x && AV.plainL xs
end
mutual
theorem conc_plain {γ γ' : List Value} {H H' : HP} : ∀ (x : AV) (v : Value), x.plain = true → Conc γ H x v → Conc γ' H' x v
  | .int k n, v, _, h => by simpa [Conc] using h
  | .bool b, v, _, h => by simpa [Conc] using h
  | .str s, v, _, h => by simpa [Conc] using h
  | .agg l, v, hc, h => by
    simp only [Conc] at h ⊢; obtain ⟨vs, rfl, h⟩ := h
    exact ⟨vs, rfl, concL_plain l vs (by simpa [AV.plain] using hc) h⟩
  | .tup l, v, hc, h => by
    simp only [Conc] at h ⊢; obtain ⟨vs, rfl, h⟩ := h
    exact ⟨vs, rfl, concL_plain l vs (by simpa [AV.plain] using hc) h⟩
  | .sl l, v, hc, h => by simp [AV.plain, AV.scalar] at hc
  | .nsl, v, _, h => by simpa [Conc] using h
  | .osl i, v, hc, h => by simp [AV.plain, AV.scalar] at hc
  | .box i o, v, hc, h => by simp [AV.plain, AV.scalar] at hc
  | .elp i o, v, hc, h => by simp [AV.plain, AV.scalar] at hc
  | .fp l off, v, hc, h => by simp [AV.plain, AV.scalar] at hc
  | .mp i, v, hc, h => by simp [AV.plain, AV.scalar] at hc
  | .fm ks vs, v, hc, h => by simp [AV.plain, AV.scalar] at hc
  | .nmp, v, _, h => by simpa [Conc] using h
  | .itr i, v, hc, h => by simp [AV.plain, AV.scalar] at hc
  | .fn g fs cs, v, hc, h => by simp [AV.plain, AV.scalar] at hc
  | .nilfn, v, _, h => by simpa [Conc] using h
  | .iface t x, v, hc, h => by
    simp only [Conc] at h ⊢; obtain ⟨u, rfl, h⟩ := h
    exact ⟨u, rfl, conc_plain x u (by simpa [AV.plain] using hc) h⟩
  | .nilif, v, _, h => by simpa [Conc] using h
  | .nilp, v, _, h => by simpa [Conc] using h
  | .junk, v, hc, h => by simp [AV.plain, AV.scalar] at hc
theorem concL_plain {γ γ' : List Value} {H H' : HP} : ∀ (l : List AV) (vs : List Value), AV.plainL l = true → ConcL γ H l vs → ConcL γ' H' l vs
  | [], vs, _, h => by simpa [ConcL] using h
  | x :: xs, vs, hc, h => by
    simp only [AV.plainL, Bool.and_eq_true] at hc
    simp only [ConcL] at h ⊢; obtain ⟨v, vs', rfl, hx, hxs⟩ := h
    exact ⟨v, vs', rfl, conc_plain x v hc.1 hx, concL_plain xs vs' hc.2 hxs⟩
end
def frz1 (own : List OE) : AV → AV
  | .mp i => match own[i]? with
    | some (.map ks vs) => .fm ks vs
    | _ => .mp i
  | .box i off => match own[i]? with
    | some (.box _ _ cs) => bif AV.closedL cs then .fp cs off else .box i off
    | _ => .box i off
  | .osl i => match own[i]? with
    | some (.row _ _ xs) => .sl xs
    | _ => .osl i
  | x => x
open Classical in
/-- The frozen memory, with all that is owned. -/
noncomputable def hold (γ : List Value) (H : HP) (own : List OE) (w : World) : HP := fun b =>
  if ∃ (i : Nat) (e : OE) (v : Value), own[i]? = some e ∧ e ≠ OE.gone ∧ γ[i]? = some v ∧ hblk v = some b then w.heap[b]? else H b
theorem hold_le (h : OwnOK B γ H own w) : HLe H (hold γ H own w) := fun b o hb => by
  unfold hold; split
  · exact h.fro b o hb
  · exact hb
theorem hold_sub (h : OwnOK B γ H own w) : HLe (hold γ H own w) (fun b => w.heap[b]?) := fun b o hb => by
  unfold hold at hb; split at hb
  · exact hb
  · exact h.fro b o hb
theorem hold_own {i : Nat} {e : OE} {v : Value} {b : Nat} (hi : own[i]? = some e) (hne : e ≠ .gone) (hv : γ[i]? = some v) (hb : hblk v = some b) : hold γ H own w b = w.heap[b]? := by
  unfold hold; rw [if_pos ⟨i, e, v, hi, hne, hv, hb⟩]
theorem conc_frz1 (h : OwnOK B γ H own w) (x : AV) (v : Value) (hx : x.isRef = true) (hc : Conc γ H x v) : Conc γ (hold γ H own w) (frz1 own x) v := by
  have base := conc_mono (hold_le h) (Ext.refl γ) hc
  cases x <;> simp only [AV.isRef, Bool.false_eq_true] at hx <;> simp only [frz1]
  · -- a row
    rename_i i
    split
    · rename_i T k xs hi
      · have hg := hc
        simp only [Conc] at hg
        rcases h.ent i _ hi with ⟨hxs, hg'⟩ | ⟨b, cap, cs, vs, hg', hcap, hcm, hb, hsz, hl, hk, ho, hs⟩
        · rw [hg.1] at hg'; cases hg'; subst hxs
          simp only [Conc]; exact ⟨none, 0, k, [], rfl, Nat.le_refl _, rfl, by simp, by simp⟩
        · rw [hg.1] at hg'; cases hg'
          simp only [Conc]
          refine ⟨_, cap, k, vs, rfl, hcap, concL_closed (hold_le h) _ _ hl, hk, fun _ => ⟨b, 0, cs, T, (0, 0), rfl, ?_, hs⟩⟩
          rw [hold_own hi (by simp) hg.1 rfl]; exact hb
    · exact base
  · -- a box
    rename_i i off
    split
    · rename_i h0 T cs hi
      cases hcl : AV.closedL cs
      · simpa using base
      · simp only [cond_true]
        simp only [Conc] at hc ⊢
        obtain ⟨b, hg, rfl⟩ := hc
        obtain ⟨b', vs, hg', hb, hl, ho⟩ := h.ent i _ hi
        rw [hg] at hg'; cases hg'
        refine ⟨b, 0, ⟨vs⟩, T, (0, 0), vs, by simp, ?_, concL_close _ _ hcl (concL_mono (hold_le h) (Ext.refl γ) hl), fun j hj => by simp⟩
        rw [hold_own hi (by simp) hg rfl]; exact hb
    · exact base
  · exact base
  · -- a map
    rename_i i
    split
    · rename_i ks vs hi
      · simp only [Conc] at hc ⊢
        obtain ⟨hg, b0, rfl⟩ := hc
        obtain ⟨b, ents, clk, es, hg', ⟨hb, hn, hlt⟩, hp, hk, hv⟩ := h.ent i _ hi
        rw [hg] at hg'; cases hg'
        refine ⟨_, ents, clk, es, rfl, ?_, hp, concL_closed (hold_le h) _ _ hk, concL_closed (hold_le h) _ _ hv, hn, hlt⟩
        rw [hold_own hi (by simp) hg rfl]; exact hb
    · exact base
  · exact base
theorem OwnOK.lent {H' : HP} {w' : World} (h : OwnOK B γ H own w) (hc : OwnOK ⟨w, hold γ H own w, [], []⟩ [] H' [] w') : OwnOK B γ H own w' := by
  have keep : ∀ b, b < w.heap.size → w'.heap[b]? = w.heap[b]? := fun b hb => hc.keep b hb (by simp)
  have lt : ∀ {b : Nat} {o : Obj}, w.heap[b]? = some o → b < w.heap.size := fun h => (Array.getElem?_eq_some_iff.1 h).1
  refine ⟨hc.os.trans h.os, hc.tape.trans h.tape, hc.output.trans h.output, Nat.le_trans h.size hc.size, fun b hb hv => (keep b (Nat.lt_of_lt_of_le hb h.size)).trans (h.keep b hb hv), h.hle,
    h.hdom, fun b o hb => by rw [keep b (lt (h.fro b o hb))]; exact h.fro b o hb, h.len, fun i e he => ?_, h.free, h.newb, h.apart⟩
  refine entryOK_map (w := w) (b := w.heap.size) (Ext.refl γ) (HLe.refl H) (fun k o _ hk => by rw [keep k (lt hk)]; exact hk) (fun hne v hv hb => ?_) (h.ent i e he)
  have := entryOK_blk (h.ent i e he) hne hv hb; omega
theorem ex_callB {G : GTab} {x : Operand} {xs : Array Operand} {tys : Array TypeId} {f : FuncId} {fs cs as : List AV} {r : AV} (ho : o.op = .call { callee := .value x, args := xs, argTypes := tys })
    (hO : OwnOK B γ H own w) (hG : GOK G H) (hx : Conc γ H (.fn (.func f) fs cs) (a.eval x)) (has : ConcL γ H as (xs.toList.map a.eval)) (hcl : AV.closedL (AV.subL (frz1 own) (fs ++ as ++ cs)) = true)
    (hr : r.plain = true) (hc : CallA P G f (AV.subL (frz1 own) (fs ++ as ++ cs)) r) : Exec P ro o a w (ResP B γ H own r) := by
  simp only [Conc] at hx
  obtain ⟨ws, us, hv, h1, h2⟩ := hx
  have hargs : ConcL γ H (fs ++ as ++ cs) (ws ++ xs.toList.map a.eval ++ us) := concL_append (concL_append h1 has) h2
  have hargs2 := concL_sub (hold_le hO) (conc_frz1 hO) _ _ hargs
  refine .inr (.inr ⟨f, ⟨ws ++ xs.toList.map a.eval ++ us⟩, w, ?_, ?_⟩)
  · rw [semAt_of ho (by simp)]
    have : (Array.mk ws ++ Array.map a.eval xs ++ Array.mk us) = (⟨ws ++ xs.toList.map a.eval ++ us⟩ : Array Value) := by apply Array.ext'; simp
    simp only [execOp, ho, resolve, Sem.run_bind, Deferred.ofValue, hv, Sem.run_pure, Result.andThen_ok, invoke]
    rw [callFunc_run hc.1, this]
  · refine (hc.2 w _ _ (hold_sub hO) (hG.mono (hold_le hO)) (concL_close _ _ hcl hargs2)).mono ?_
    rintro e w' ⟨v, rfl, H', hO', hcv⟩
    exact ⟨v, rfl, γ, H, Ext.refl γ, HLe.refl H, hO.lent hO', conc_plain _ _ hr hcv⟩
theorem flat_length {vs : List Value} {k : Nat} (h : ∀ x ∈ vs, x.cells.size = k) : (flat vs).length = vs.length * k := by
  induction vs with
  | nil => simp [flat]
  | cons v vs ih =>
    have h1 := h v (by simp)
    have h2 := ih (fun x hx => h x (by simp [hx]))
    simp only [flat, List.flatMap_cons, List.length_append, Array.length_toList, List.length_cons, h1] at *
    rw [h2, Nat.add_mul]; omega
theorem flat_at {vs : List Value} {k : Nat} (h : ∀ x ∈ vs, x.cells.size = k) {j : Nat} {v : Value} (hj : vs[j]? = some v) : ((flat vs).drop (j * k)).take k = v.cells.toList := by
  induction vs generalizing j with
  | nil => simp at hj
  | cons u vs ih =>
    have h1 := h u (by simp)
    cases j with
    | zero =>
      simp at hj; subst hj
      simp only [flat, List.flatMap_cons, Nat.zero_mul, List.drop_zero]
      exact List.take_left' (by simp [h1])
    | succ j =>
      simp at hj
      have := ih (fun x hx => h x (by simp [hx])) hj
      have e : (flat (u :: vs)).drop ((j + 1) * k) = (flat vs).drop (j * k) := by
        simp only [flat, List.flatMap_cons]
        rw [show (j + 1) * k = u.cells.toList.length + j * k from by simp [h1, Nat.add_mul]; omega, ← List.drop_drop, List.drop_left]
      rw [e, this]
theorem seg_elem {cs : Array Value} {off k : Nat} {vs : List Value} (hs : Seg cs off (flat vs)) (hk : ∀ x ∈ vs, x.cells.size = k) {j : Nat} {v : Value} (hj : vs[j]? = some v) : Seg cs (off + j * k) v.cells.toList := by
  rw [← flat_at hk hj]; exact seg_take hs _
theorem ex_index {t elem : TypeId} {x ix : Operand} {l : List AV} {kk : IntKind} {i : Int} {e : AV} {inf : TypeInfo} (ho : o.op = .indexAddr t x ix) (hO : OwnOK B γ H own w) (hx : Conc γ H (.sl l) (a.eval x))
    (hi : Conc γ H (.int kk i) (a.eval ix)) (ht : P.underlying t = some (.slice elem)) (hinf : P.info? elem = some inf) (hk : inf.size = e.cells.length) (h0 : 0 ≤ i) (he : l[i.toNat]? = some e) (hce : ∀ l, e ≠ .tup l) :
    Exec P ro o a w (ResP B γ H own (.fp e.cells 0)) := by
  simp only [Conc] at hx
  obtain ⟨A, c, k, vs, hv, hc, hl, hks, hp⟩ := hx
  have e1 := conc_int.1 hi
  have hlt := (List.getElem?_eq_some_iff.1 he).1
  obtain ⟨b, off, cs, T, fz, rfl, hb, hs⟩ := hp (by intro e; subst e; simp at hlt)
  obtain ⟨v, hv', hcv⟩ := concL_get hl he
  have hk : inf.size = k := by
    rw [hk, ← concL_length (conc_cells hcv hce), ← hks v (List.mem_of_getElem? hv')]; simp
  refine exec_val (semAt_of ho (by simp)) (v := .pointer (some ⟨b, off + i.toNat * k, none⟩)) (w' := w) ?_ (ResP.same hO ?_)
  · have h1 : (underlying t).run P w = .ok (.slice elem) w := by simp [underlying, ht]
    have h2 : (sizeOf elem).run P w = .ok k w := by simp [sizeOf, typeInfo, hinf, hk]
    have hlt' : i < (l.length : Int) := by omega
    simp only [execOp, ho, hv, e1, Instr.indexAt, Sem.run_bind, asIntOf, Sem.run_pure, Result.andThen_ok, h1, Bool.and_false]
    rw [if_pos ⟨h0, hlt'⟩]
    simp [h2, addr_add]
  · simp only [Conc]
    exact ⟨b, off + i.toNat * k, cs, T, fz, _, by simp, hb, conc_cells hcv hce, seg_elem hs hks hv'⟩
theorem ex_len_sl {x : Operand} {t : TypeId} {l : List AV} (ho : o.op = .call { callee := .builtin .len, args := #[x], argTypes := #[t] }) (hO : OwnOK B γ H own w) (hx : Conc γ H (.sl l) (a.eval x))
    {elem : TypeId} (ht : P.underlying t = some (.slice elem)) : Exec P ro o a w (ResP B γ H own (.int .i64 l.length)) := by
  simp only [Conc] at hx
  obtain ⟨A, c, k, vs, hv, _⟩ := hx
  refine exec_val (semAt_of ho (by simp)) (v := .int .i64 l.length) (w' := w) ?_ (ResP.same hO (conc_int.2 rfl))
  have h1 : (underlying t).run P w = .ok (.slice elem) w := by simp [underlying, ht]
  simp [execOp, ho, resolve, invoke, builtin, Builtin.len_, h1, hv, goInt]
theorem ex_len_row {x : Operand} {t T : TypeId} {i k : Nat} {l : List AV} (ho : o.op = .call { callee := .builtin .len, args := #[x], argTypes := #[t] }) (hO : OwnOK B γ H own w) (hx : Conc γ H (.osl i) (a.eval x))
    (hi : own[i]? = some (.row T k l)) {elem : TypeId} (ht : P.underlying t = some (.slice elem)) : Exec P ro o a w (ResP B γ H own (.int .i64 l.length)) := by
  simp only [Conc] at hx
  have h1 : (underlying t).run P w = .ok (.slice elem) w := by simp [underlying, ht]
  obtain ⟨A, c, hv⟩ : ∃ A c, a.eval x = .slice A l.length c := by
    rcases hO.ent i _ hi with ⟨hxs, hg'⟩ | ⟨b, cap, cs, vs, hg', _⟩
    · rw [hx.1] at hg'; subst hxs; exact ⟨_, _, Option.some.inj hg'⟩
    · rw [hx.1] at hg'; exact ⟨_, _, Option.some.inj hg'⟩
  refine exec_val (semAt_of ho (by simp)) (v := .int .i64 l.length) (w' := w) ?_ (ResP.same hO (conc_int.2 rfl))
  simp [execOp, ho, resolve, invoke, builtin, Builtin.len_, h1, goInt, hv]
theorem ex_len_nil {x : Operand} {t : TypeId} (ho : o.op = .call { callee := .builtin .len, args := #[x], argTypes := #[t] }) (hO : OwnOK B γ H own w) (hx : Conc γ H .nsl (a.eval x))
    {elem : TypeId} (ht : P.underlying t = some (.slice elem)) : Exec P ro o a w (ResP B γ H own (.int .i64 0)) := by
  simp only [Conc] at hx
  refine exec_val (semAt_of ho (by simp)) (v := .int .i64 0) (w' := w) ?_ (ResP.same hO (conc_int.2 rfl))
  have h1 : (underlying t).run P w = .ok (.slice elem) w := by simp [underlying, ht]
  simp [execOp, ho, resolve, invoke, builtin, Builtin.len_, h1, hx, goInt]
theorem ex_minmax {mx : Bool} {xs : Array Operand} {tys : Array TypeId} {k : IntKind} {m n : Int} (ho : o.op = .call { callee := .builtin (if mx then .max else .min), args := xs, argTypes := tys }) (hO : OwnOK B γ H own w)
    {x y : Operand} (hxs : xs = #[x, y]) (hx : Conc γ H (.int k m) (a.eval x)) (hy : Conc γ H (.int k n) (a.eval y)) :
    Exec P ro o a w (ResP B γ H own (.int k (if mx then (if m < n then n else m) else (if n < m then n else m)))) := by
  have e1 := conc_int.1 hx
  have e2 := conc_int.1 hy
  subst hxs
  refine exec_val (semAt_of ho (by simp)) (v := _) (w' := w) ?_ (ResP.same hO (conc_int.2 rfl))
  cases mx <;> simp [execOp, ho, resolve, invoke, builtin, Builtin.max_, Builtin.min_, Builtin.max2, Builtin.min2, e1, e2]
end Go.Fw

namespace Go.Fw
variable {P : Program} {B : Base} {γ : List Value} {H : HP} {own : List OE} {w : World} {a : Act} {ro : Option Nat} {o : Oper}

theorem foldl_splice (off : Nat) (l : List Value) (cs : Array Value) (h : off + l.length ≤ cs.size) :
    ((l.zipIdx 0).foldl (fun cs (x : Value × Nat) => cs.setIfInBounds (off + x.2) x.1) cs).toList = cs.toList.take off ++ l ++ cs.toList.drop (off + l.length) := by
  obtain ⟨h1, h2⟩ := Great.foldl_set off l 0 cs
  apply List.ext_getElem?
  intro k
  have := h2 k
  rw [← Array.getElem?_toList] at this
  rw [this]
  simp only [Nat.add_zero]
  by_cases hk : k < off
  · rw [if_neg (by omega), List.append_assoc, List.getElem?_append_left (by simp; omega), List.getElem?_take, if_pos hk, Array.getElem?_toList]
  · by_cases hk2 : k < off + l.length
    · rw [if_pos ⟨by omega, hk2, by omega⟩, List.append_assoc, List.getElem?_append_right (by simp; omega)]
      simp only [List.length_take, Array.length_toList]
      rw [Nat.min_eq_left (by omega), List.getElem?_append_left (by omega)]
    · rw [if_neg (by omega), List.getElem?_append_right (by simp; omega)]
      simp only [List.length_append, List.length_take, Array.length_toList, List.getElem?_drop]
      rw [Nat.min_eq_left (by omega), show off + l.length + (k - (off + l.length)) = k from by omega, Array.getElem?_toList]
def PartsOK (γ : List Value) (H : HP) : List (Nat × Value) → List (Nat × AV) → Prop
  | [], [] => True
  | (i, v) :: ps, (j, x) :: qs => i = j ∧ ConcL γ H x.cells v.cells.toList ∧ PartsOK γ H ps qs
  | _, _ => False
theorem fill_conc {place : Nat → Option (Nat × Nat)} : ∀ {ps : List (Nat × Value)} {qs : List (Nat × AV)} {cells : Array Value} {l l' : List AV}, PartsOK γ H ps qs → ConcL γ H l cells.toList → fillAV place l qs = some l' →
    ∃ cells', Instr.fill place cells ps = some cells' ∧ ConcL γ H l' cells'.toList
  | [], [], cells, l, l', _, hl, h => by simp only [fillAV, Option.some.injEq] at h; subst h; exact ⟨cells, rfl, hl⟩
  | (i, v) :: ps, [], _, _, _, hp, _, _ => hp.elim
  | [], (j, x) :: qs, _, _, _, hp, _, _ => hp.elim
  | (i, v) :: ps, (j, x) :: qs, cells, l, l', hp, hl, h => by
    obtain ⟨rfl, hx, hp⟩ := hp
    unfold fillAV at h
    split at h
    · cases h
    · rename_i off size hpl
      cases hc : (x.cells.length == size) && Nat.ble (off + x.cells.length) l.length
      · rw [hc] at h; cases h
      · rw [hc] at h
        simp only [cond_true] at h
        simp only [Bool.and_eq_true, beq_iff_eq] at hc
        have h1 := concL_length hx
        have h2 := concL_length hl
        have h3 := Nat.le_of_ble_eq_true hc.2
        simp only [Array.length_toList] at h1 h2
        have key := foldl_splice off v.cells.toList cells (by simp; omega)
        obtain ⟨cells', hf, hl'⟩ := fill_conc (place := place) (cells := (v.cells.toList.zipIdx 0).foldl (fun cs (x : Value × Nat) => cs.setIfInBounds (off + x.2) x.1) cells) hp
          (by rw [key]; simp only [Array.length_toList, h1]; exact concL_append (concL_append (concL_take _ hl) hx) (concL_drop _ hl)) h
        refine ⟨cells', ?_, hl'⟩
        unfold Instr.fill
        rw [hpl]
        simp only
        rw [if_neg (by simp only [ne_eq, Bool.or_eq_true, decide_eq_true_eq, not_or]; omega), ← hf]
        congr 1
        rw [← Array.foldl_toList, Array.toList_zipIdx]
def structPlaces (P : Program) : List Field → Option (List (Nat × Nat))
  | [] => some []
  | f :: fs => match P.info? f.type, structPlaces P fs with
    | some i, some r => some ((f.offset, i.size) :: r)
    | _, _ => none
theorem places_run : ∀ {fs : List Field} {r : List (Nat × Nat)}, structPlaces P fs = some r → (fs.mapM (m := Sem) fun f => do pure (f.offset, ← sizeOf f.type)).run P w = .ok r w
  | [], r, h => by simp only [structPlaces, Option.some.injEq] at h; subst h; rfl
  | f :: fs, r, h => by
    unfold structPlaces at h
    split at h
    · rename_i i r' hi hr
      cases h
      have h1 : (sizeOf f.type).run P w = .ok i.size w := by simp [sizeOf, typeInfo, hi]
      simp only [List.mapM_cons, Sem.run_bind, h1, Result.andThen_ok, Sem.run_pure, places_run hr]
    · cases h
def zeroAV (P : Program) (t : TypeId) : Option AV := match P.info? t with
  | some i => match i.zero with
    | some v => AV.ofV v
    | none => none
  | none => none
def buildAV (P : Program) (t : TypeId) (qs : List (Nat × AV)) : Option AV :=
  match P.underlying t, zeroAV P t with
  | some (.struct fields), some z => match structPlaces P fields.toList with
    | some pl => (fillAV (pl[·]?) z.cells qs).map AV.agg
    | none => none
  | some (.array _ elem), some z => match P.info? elem with
    | some i => (fillAV (fun j => some (j * i.size, i.size)) z.cells qs).map AV.agg
    | none => none
  | _, _ => none
theorem zeroAV_run {t : TypeId} {z : AV} (h : zeroAV P t = some z) : ∃ v, (zeroValue t).run P w = .ok v w ∧ Conc γ H z v := by
  unfold zeroAV at h
  split at h
  · rename_i i hi
    split at h
    · rename_i v hv
      exact ⟨v, by simp [zeroValue, typeInfo, hi, hv], conc_ofV h⟩
    · cases h
  · cases h
theorem ofV_notup {v : Value} {z : AV} (h : AV.ofV v = some z) : ∀ l, z ≠ .tup l := by
  intro l e; subst e
  unfold AV.ofV at h
  split at h
  · rename_i cs; cases hh : AV.ofVL cs.toList <;> rw [hh] at h <;> cases h
  · unfold AV.ofV1 at h; split at h <;> cases h
theorem zeroAV_cells {t : TypeId} {z : AV} (h : zeroAV P t = some z) : ∃ v, (zeroValue t).run P w = .ok v w ∧ ConcL γ H z.cells v.cells.toList := by
  obtain ⟨v, h1, h2⟩ := zeroAV_run (w := w) (γ := γ) (H := H) h
  refine ⟨v, h1, conc_cells h2 ?_⟩
  unfold zeroAV at h
  split at h
  · split at h
    · exact ofV_notup h
    · cases h
  · cases h
theorem ex_build {t : TypeId} {parts : Array (Nat × Operand)} {qs : List (Nat × AV)} {r : AV} (ho : o.op = .build t parts) (hO : OwnOK B γ H own w)
    (hp : PartsOK γ H (parts.toList.map fun p => (p.1, a.eval p.2)) qs) (h : buildAV P t qs = some r) : Exec P ro o a w (ResP B γ H own r) := by
  unfold buildAV at h
  split at h
  · rename_i fields z hu hz
    split at h
    case h_2 => cases h
    rename_i pl hpl
    cases hf : fillAV (pl[·]?) z.cells qs with
    | none => rw [hf] at h; cases h
    | some l' =>
      rw [hf] at h; cases h
      obtain ⟨v, hzr, hzc⟩ := zeroAV_cells (w := w) (γ := γ) (H := H) hz
      obtain ⟨cells', hfill, hl'⟩ := fill_conc (place := (pl[·]?)) (cells := v.cells) hp hzc hf
      refine exec_val (semAt_of ho (by simp)) (v := .agg cells') (w' := w) ?_ (ResP.same hO (conc_agg.2 ⟨cells'.toList, by simp, hl'⟩))
      have h1 : (underlying t).run P w = .ok (.struct fields) w := by simp [underlying, hu]
      have h2 : (fields.mapM (m := Sem) fun f => do pure (f.offset, ← sizeOf f.type)).run P w = .ok pl.toArray w := by
        have := places_run (w := w) hpl
        rw [Array.mapM_eq_mapM_toList]
        simp only [Sem.run_map, this, Result.andThen_ok]
      have h3 : (parts.map fun x => (x.1, a.eval x.2)).toList = parts.toList.map fun p => (p.1, a.eval p.2) := by simp
      have h4 : (fun i : Nat => pl.toArray[i]?) = (fun i : Nat => pl[i]?) := by funext i; simp
      simp only [execOp, ho, Instr.build, Sem.run_bind, hzr, h1, h2, Result.andThen_ok, Sem.run_pure]
      rw [h3, h4, hfill]
      rfl
  · rename_i n elem z hu hz
    split at h
    case h_2 => cases h
    rename_i i hi
    cases hf : fillAV (fun j => some (j * i.size, i.size)) z.cells qs with
    | none => rw [hf] at h; cases h
    | some l' =>
      rw [hf] at h; cases h
      obtain ⟨v, hzr, hzc⟩ := zeroAV_cells (w := w) (γ := γ) (H := H) hz
      obtain ⟨cells', hfill, hl'⟩ := fill_conc (place := fun j => some (j * i.size, i.size)) (cells := v.cells) hp hzc hf
      refine exec_val (semAt_of ho (by simp)) (v := .agg cells') (w' := w) ?_ (ResP.same hO (conc_agg.2 ⟨cells'.toList, by simp, hl'⟩))
      have h1 : (underlying t).run P w = .ok (.array n elem) w := by simp [underlying, hu]
      have h2 : (sizeOf elem).run P w = .ok i.size w := by simp [sizeOf, typeInfo, hi]
      have h3 : (parts.map fun x => (x.1, a.eval x.2)).toList = parts.toList.map fun p => (p.1, a.eval p.2) := by simp
      simp only [execOp, ho, Instr.build, Sem.run_bind, hzr, h1, h2, Result.andThen_ok, Sem.run_pure]
      rw [h3, hfill]
      rfl
  · cases h
def PartsV (γ : List Value) (H : HP) : List (Nat × Value) → List (Nat × AV) → Prop
  | [], [] => True
  | (i, v) :: ps, (j, x) :: qs => i = j ∧ Conc γ H x v ∧ PartsV γ H ps qs
  | _, _ => False
theorem PartsV.length {γ : List Value} {H : HP} : ∀ {ps : List (Nat × Value)} {qs : List (Nat × AV)}, PartsV γ H ps qs → ps.length = qs.length
  | [], [], _ => rfl
  | (_, _) :: _, (_, _) :: _, h => by simp [PartsV.length h.2.2]
  | [], (_, _) :: _, h => h.elim
  | (_, _) :: _, [], h => h.elim
def denseAV (k : Nat) : Nat → List (Nat × AV) → Option (List AV)
  | _, [] => some []
  | i, (j, x) :: qs => bif (i == j) && (x.cells.length == k) && x.cells.all AV.one then (denseAV k (i + 1) qs).map (x :: ·) else none
theorem dense_conc {k : Nat} : ∀ {ps : List (Nat × Value)} {qs : List (Nat × AV)} {i : Nat} {l : List AV}, PartsV γ H ps qs → denseAV k i qs = some l →
    ∃ vs : List Value, ps = ((vs.zipIdx i).map fun x => (x.2, x.1)) ∧ ConcL γ H l vs ∧ (∀ x ∈ vs, x.cells.size = k) ∧ ∀ x ∈ flat vs, One x
  | [], [], i, l, _, h => by
    simp only [denseAV, Option.some.injEq] at h; subst h
    exact ⟨[], rfl, rfl, by simp, by simp [flat]⟩
  | [], (_, _) :: _, _, _, hp, _ => hp.elim
  | (_, _) :: _, [], _, _, hp, _ => hp.elim
  | (j, v) :: ps, (j', x) :: qs, i, l, hp, h => by
    obtain ⟨rfl, hx, hp⟩ := hp
    unfold denseAV at h
    cases hc : (i == j) && (x.cells.length == k) && x.cells.all AV.one
    · rw [hc] at h; cases h
    · rw [hc] at h; simp only [cond_true] at h
      simp only [Bool.and_eq_true, beq_iff_eq] at hc
      obtain ⟨⟨rfl, hk⟩, hall⟩ := hc
      cases hd : denseAV k (i + 1) qs with
      | none => rw [hd] at h; cases h
      | some l' =>
        rw [hd] at h; cases h
        obtain ⟨vs, rfl, hl, hks, hone⟩ := dense_conc hp hd
        obtain ⟨h1, h2⟩ := concL_cells_one hx hall
        refine ⟨v :: vs, by simp [List.zipIdx_cons], ⟨v, vs, rfl, hx, hl⟩, ?_, ?_⟩
        · intro y hy
          rcases List.mem_cons.1 hy with rfl | hy
          · rw [← Array.length_toList, concL_length h1, hk]
          · exact hks y hy
        · intro y hy
          simp only [flat, List.flatMap_cons, List.mem_append] at hy
          rcases hy with hy | hy
          · exact h2 y hy
          · exact hone y hy
theorem run_slice_lit {t e : TypeId} {len k : Nat} {parts : Array (Nat × Operand)} {inf : TypeInfo} {z : Value} {vs : List Value} (ho : o.op = .buildSlice t len parts) (hu : P.underlying t = some (.slice e))
    (hi : P.info? e = some inf) (hz : inf.zero = some z) (hk : inf.size = k) (hkp : 0 < k) (hlen : vs.length = len) (hsm : len * k ≤ 2 ^ 24)
    (hp : (parts.toList.map fun p => (p.1, a.eval p.2)) = (vs.zipIdx 0).map fun x => (x.2, x.1)) (hks : ∀ x ∈ vs, x.cells.size = k) :
    (execOp a.eval o).run P w = .ok (.value (.slice (some ⟨w.heap.size, 0, none⟩) len len)) (w.alloc (.cells (flat vs).toArray e)) := by
  have h3 : (parts.map fun x => (x.1, a.eval x.2)).toList = parts.toList.map fun p => (p.1, a.eval p.2) := by simp
  have hsz : (sizeOf e).run P w = .ok k w := by simp [sizeOf, typeInfo, hi, hk]
  have h1 : (underlying t).run P w = .ok (.slice e) w := by simp [underlying, hu]
  by_cases hl0 : len = 0
  · subst hl0
    have : vs = [] := List.length_eq_zero_iff.1 hlen
    subst this
    simp only [execOp, ho, Instr.buildSlice, Sem.run_bind, h1, hsz, Result.andThen_ok]
    rw [if_neg (by simp)]
    simp only [Sem.run_bind, Nat.zero_mul, if_true, Sem.run_pure, Result.andThen_ok, h3, hp]
    simp [Instr.fill, flat, newRow]
    congr 2
    apply Array.ext'
    simp
  · have hfill := Great.fill_whole hkp vs ((Array.range (len * inf.size)).map (z.cells[· % z.cells.size]!)) hks (by simp [hlen, hk])
    have := run_buildSlice (P := P) w t e len (parts.map fun x => (x.1, a.eval x.2)) _ inf z hu hi hz (by rw [hk]; omega) (by rw [hk]; exact Nat.ne_of_gt (Nat.mul_pos (by omega) hkp))
      (by rw [h3, hp, hk]; rw [hk] at hfill; exact hfill)
    simp only [execOp, ho, Sem.run_bind, this, Result.andThen_ok, Sem.run_pure]
    rfl
def litAV (P : Program) (t : TypeId) (len : Nat) (qs : List (Nat × AV)) : Option (TypeId × Nat × List AV) :=
  match P.underlying t with
  | some (.slice e) => match P.info? e with
    | some inf => match inf.zero with
      | some _ => bif Nat.ble 1 inf.size && Nat.ble (len * inf.size) 16777216 && (qs.length == len) then (denseAV inf.size 0 qs).map fun l => (e, inf.size, l) else none
      | none => none
    | none => none
  | _ => none
theorem lit_run {t e : TypeId} {len k : Nat} {parts : Array (Nat × Operand)} {qs : List (Nat × AV)} {l : List AV} (ho : o.op = .buildSlice t len parts)
    (hp : PartsV γ H (parts.toList.map fun p => (p.1, a.eval p.2)) qs) (h : litAV P t len qs = some (e, k, l)) :
    ∃ vs : List Value, (execOp a.eval o).run P w = .ok (.value (.slice (some ⟨w.heap.size, 0, none⟩) l.length l.length)) (w.alloc (.cells (flat vs).toArray e)) ∧ ConcL γ H l vs ∧ (∀ x ∈ vs, x.cells.size = k) ∧ (∀ x ∈ flat vs, One x) ∧ l.length ≤ 16777216 := by
  unfold litAV at h
  split at h
  case h_2 => cases h
  rename_i e' hu
  split at h
  case h_2 => cases h
  rename_i inf hi
  split at h
  case h_2 => cases h
  rename_i z hz
  cases hc : Nat.ble 1 inf.size && Nat.ble (len * inf.size) 16777216 && (qs.length == len)
  · rw [hc] at h; cases h
  · rw [hc] at h; simp only [cond_true] at h
    simp only [Bool.and_eq_true, beq_iff_eq] at hc
    cases hd : denseAV inf.size 0 qs with
    | none => rw [hd] at h; cases h
    | some l' =>
      rw [hd] at h
      simp only [Option.map_some, Option.some.injEq, Prod.mk.injEq] at h
      obtain ⟨rfl, rfl, rfl⟩ := h
      obtain ⟨vs, hps, hl, hks, hone⟩ := dense_conc hp hd
      have hll := concL_length hl
      have hlen : vs.length = len := by
        have h1 := hp.length
        rw [hps] at h1; simp at h1; omega
      have hsm := Nat.le_of_ble_eq_true hc.1.2
      have hs1 := Nat.le_of_ble_eq_true hc.1.1
      have hle : l'.length ≤ 16777216 := by
        rw [← hll, hlen]; exact Nat.le_trans (Nat.le_mul_of_pos_right _ hs1) hsm
      refine ⟨vs, ?_, hl, hks, hone, hle⟩
      rw [← hll, hlen]
      exact run_slice_lit ho hu hi hz rfl (Nat.le_of_ble_eq_true hc.1.1) hlen (Nat.le_of_ble_eq_true hc.1.2) hps hks
theorem seg_self (vs : List Value) : Seg vs.toArray 0 vs := fun j hj => by simp
theorem ex_lit {t e : TypeId} {len k : Nat} {parts : Array (Nat × Operand)} {qs : List (Nat × AV)} {l : List AV} (ho : o.op = .buildSlice t len parts) (hO : OwnOK B γ H own w)
    (hp : PartsV γ H (parts.toList.map fun p => (p.1, a.eval p.2)) qs) (h : litAV P t len qs = some (e, k, l)) (hcl : AV.closedL l = true) :
    Exec P ro o a w (ResP B γ H own (.sl l)) := by
  obtain ⟨vs, hr, hl, hks, hone, hbd⟩ := lit_run (w := w) ho hp h
  have hle := HP.put_le H (o := .cells (flat vs).toArray e) hO.hnone
  refine exec_val (semAt_of ho (by simp)) hr ⟨γ, _, Ext.refl γ, hle, hO.frozen _, ?_⟩
  simp only [Conc]
  exact ⟨_, _, _, vs, rfl, Nat.le_refl _, concL_closed hle _ _ (concL_close _ _ hcl hl), hks, fun _ => ⟨_, 0, _, e, (0, 0), rfl, HP.put_same _ _ _, seg_self _⟩⟩
theorem ex_litO {t e : TypeId} {len k : Nat} {parts : Array (Nat × Operand)} {qs : List (Nat × AV)} {l : List AV} (ho : o.op = .buildSlice t len parts) (hO : OwnOK B γ H own w)
    (hp : PartsV γ H (parts.toList.map fun p => (p.1, a.eval p.2)) qs) (h : litAV P t len qs = some (e, k, l)) (hcl : AV.closedL l = true) :
    Exec P ro o a w (ResP B γ H (own ++ [.row e k l]) (.osl own.length)) := by
  obtain ⟨vs, hr, hl, hks, hone, hbd⟩ := lit_run (w := w) ho hp h
  refine exec_val (semAt_of ho (by simp)) hr ⟨γ ++ [.slice (some ⟨w.heap.size, 0, none⟩) l.length l.length], H, Ext.snoc γ _, HLe.refl H, hO.alloc rfl (.inr ⟨w.heap.size, l.length, (flat vs).toArray, vs, ?_, Nat.le_refl _, ?_, ?_, ?_, concL_close _ _ hcl hl, hks, hone, seg_self _⟩), ?_⟩
  · rw [← hO.len]; simp
  · omega
  · show (w.heap.push _)[w.heap.size]? = _; simp
  · rw [List.size_toArray, flat_length hks, concL_length hl]
  · rw [← hO.len]; simp [Conc]
end Go.Fw

namespace Go.Fw
variable {P : Program} {w : World}

def flatFields (P : Program) : Nat → List Field → Option (List IntKind)
  | _, [] => some []
  | off, f :: fs => match P.underlying f.type with
    | some (.int k) => bif (f.offset == off) && !(f.name == "_") then (flatFields P (off + 1) fs).map (k :: ·) else none
    | _ => none
def flatTy (P : Program) (t : TypeId) : Option (List IntKind) := match P.underlying t with
  | some (.struct fields) => bif P.stoodInHeld t then none else flatFields P 0 fields.toList
  | _ => none
def intsV (ks : List IntKind) (ns : List Int) : List Value := (ks.zip ns).map fun p => .int p.1 p.2
theorem run_part_int {t : TypeId} {k : IntKind} (h : P.underlying t = some (.int k)) (cs : Array Value) (off : Nat) (v : Value) (hv : cs[off]? = some v) : (part t cs off).run P w = .ok v w := by
  have h2 : (isAgg t).run P w = .ok false w := by simp [isAgg, underlying, h]
  simp [part, h2, hv]
theorem eqFields_flat (d : Nat) : ∀ {fs : List Field} {ks : List IntKind} {off : Nat} {xs ys : List Value} {ms ns : List Int}, flatFields P off fs = some ks → ms.length = ks.length → ns.length = ks.length →
    xs.drop off = intsV ks ms → ys.drop off = intsV ks ns → (Op.eqFields (d + 1) ⟨xs⟩ ⟨ys⟩ fs).run P w = .ok (decide (ms = ns)) w
  | [], ks, off, xs, ys, ms, ns, h, hm, hn, _, _ => by
    simp only [flatFields, Option.some.injEq] at h; subst h
    have e1 : ms = [] := List.length_eq_zero_iff.1 hm
    have e2 : ns = [] := List.length_eq_zero_iff.1 hn
    subst e1 e2; simp [Op.eqFields]
  | f :: fs, ks, off, xs, ys, ms, ns, h, hm, hn, hx, hy => by
    unfold flatFields at h
    split at h
    case h_2 => cases h
    rename_i k hk
    cases hc : (f.offset == off) && !(f.name == "_")
    · rw [hc] at h; cases h
    · rw [hc] at h; simp only [cond_true] at h
      simp only [Bool.and_eq_true, beq_iff_eq, Bool.not_eq_true', beq_eq_false_iff_ne] at hc
      cases hr : flatFields P (off + 1) fs with
      | none => rw [hr] at h; cases h
      | some ks' =>
        rw [hr] at h; simp only [Option.map_some, Option.some.injEq] at h; subst h
        obtain ⟨hoff, hname⟩ := hc
        match ms, ns, hm, hn with
        | m :: ms, n :: ns, hm, hn =>
          simp only [List.length_cons, Nat.add_right_cancel_iff] at hm hn
          have sp : ∀ {zs : List Value} {z : Int} {qs : List Int}, zs.drop off = intsV (k :: ks') (z :: qs) → zs[off]? = some (.int k z) ∧ zs.drop (off + 1) = intsV ks' qs := by
            intro zs z qs hz
            simp only [intsV, List.zip_cons_cons, List.map_cons] at hz
            refine ⟨?_, ?_⟩
            · have := congrArg (·[0]?) hz
              simpa using this
            · have := congrArg (List.drop 1) hz
              simpa [intsV] using this
          obtain ⟨x1, x2⟩ := sp hx
          obtain ⟨y1, y2⟩ := sp hy
          have ih := eqFields_flat d hr hm hn x2 y2
          have p1 := run_part_int (P := P) (w := w) hk ⟨xs⟩ off _ (by simpa using x1)
          have p2 := run_part_int (P := P) (w := w) hk ⟨ys⟩ off _ (by simpa using y1)
          have p3 := run_equalIn_int (P := P) w d f.type k k m n hk
          subst hoff
          simp only [Op.eqFields, ne_eq, hname, not_false_eq_true, if_true, Sem.run_bind, p1, p2, p3, Result.andThen_ok]
          by_cases hmn : m = n
          · subst hmn
            simp only [beq_self_eq_true, Bool.not_true, Bool.false_eq_true, if_false, ih]
            congr 1
            simp
          · have : (m == n) = false := by simpa using hmn
            simp only [this, Bool.not_false, if_true, Sem.run_pure]
            congr 1
            simp [hmn]
theorem run_equal_flat {t : TypeId} {ks : List IntKind} (h : flatTy P t = some ks) {ms ns : List Int} (hm : ms.length = ks.length) (hn : ns.length = ks.length) :
    (Op.equal t (.agg ⟨intsV ks ms⟩) (.agg ⟨intsV ks ns⟩)).run P w = .ok (decide (ms = ns)) w := by
  unfold flatTy at h
  split at h
  case h_2 => cases h
  rename_i fields hu
  cases hs : P.stoodInHeld t
  · rw [hs] at h; simp only [cond_false] at h
    have hf : P.fieldsOf t = fields := by simp [Program.fieldsOf, hu]
    have := run_equalIn_struct (P := P) w 9999 t ⟨intsV ks ms⟩ ⟨intsV ks ns⟩ (by rw [hf]; exact hu) hs
    unfold Op.equal Op.maxDepth
    rw [this, hf]
    exact eqFields_flat 9998 h hm hn rfl rfl
  · rw [hs] at h; cases h
def KeyV (P : Program) (t : TypeId) (v : Value) : Prop := (∃ k n, P.underlying t = some (.int k) ∧ v = .int k n) ∨ ∃ ks ns, flatTy P t = some ks ∧ ns.length = ks.length ∧ v = .agg ⟨intsV ks ns⟩
theorem run_equal_key {t : TypeId} {u v : Value} (hu : KeyV P t u) (hv : KeyV P t v) : ∃ c : Bool, (Op.equal t u v).run P w = .ok c w ∧ (c = true ↔ u = v) := by
  rcases hu with ⟨k, n, hk, rfl⟩ | ⟨ks, ns, hf, hn, rfl⟩
  · rcases hv with ⟨k', m, hk', rfl⟩ | ⟨ks', ms, hf', _, rfl⟩
    · rw [hk] at hk'; cases hk'
      refine ⟨n == m, run_equalIn_int (P := P) w 9999 t k k n m hk, by simp⟩
    · unfold flatTy at hf'; rw [hk] at hf'; cases hf'
  · rcases hv with ⟨k', m, hk', rfl⟩ | ⟨ks', ms, hf', hm, rfl⟩
    · unfold flatTy at hf; rw [hk'] at hf; cases hf
    · rw [hf] at hf'; cases hf'
      refine ⟨_, run_equal_flat hf hn hm, ?_⟩
      have : ns = ms ↔ (Value.agg ⟨intsV ks ns⟩) = (Value.agg ⟨intsV ks ms⟩) := by
        refine ⟨fun h => by rw [h], fun h => ?_⟩
        have h' : intsV ks ns = intsV ks ms := by injection h with h; injection h
        clear h hf
        induction ks generalizing ns ms with
        | nil =>
          have e1 : ns = [] := List.length_eq_zero_iff.1 hn
          have e2 : ms = [] := List.length_eq_zero_iff.1 hm
          rw [e1, e2]
        | cons k ks ih =>
          match ns, ms, hn, hm with
          | n :: ns, m :: ms, hn, hm =>
            simp only [intsV, List.zip_cons_cons, List.map_cons, List.cons.injEq, Value.int.injEq, true_and] at h'
            rw [h'.1, ih ns (by simpa using hn) ms (by simpa using hm) h'.2]
      rw [← this]; simp
theorem findAsking_key {t : TypeId} {x : Value} (hx : KeyV P t x) : ∀ (es : List MapEntry) (i : Nat), (∀ e ∈ es, KeyV P t e.key) →
    ((Instr.findAsking t x es i).run P w = .ok none w ∧ ∀ e ∈ es, e.key ≠ x) ∨ ∃ j e, (Instr.findAsking t x es i).run P w = .ok (some (i + j, e.val)) w ∧ es[j]? = some e ∧ e.key = x
  | [], i, _ => .inl ⟨rfl, by simp⟩
  | e :: es, i, h => by
    obtain ⟨c, h1, hc⟩ := run_equal_key (w := w) hx (h e (by simp))
    by_cases he : x = e.key
    · right
      refine ⟨0, e, ?_, by simp, he.symm⟩
      have : c = true := hc.2 he
      subst this
      simp only [Instr.findAsking, Sem.run_bind, h1, Result.andThen_ok, if_true, Sem.run_pure, Nat.add_zero]
    · have hcf : c = false := by cases c; rfl; exact absurd (hc.1 rfl) he
      subst hcf
      rcases findAsking_key hx es (i + 1) (fun e' he' => h e' (by simp [he'])) with ⟨h2, h3⟩ | ⟨j, e', h2, h3, h4⟩
      · left
        refine ⟨by simp only [Instr.findAsking, Sem.run_bind, h1, Result.andThen_ok, Bool.false_eq_true, if_false, h2], fun e' he' => ?_⟩
        rcases List.mem_cons.1 he' with rfl | he'
        · exact fun e => he e.symm
        · exact h3 e' he'
      · right
        refine ⟨j + 1, e', ?_, by simpa using h3, h4⟩
        simp only [Instr.findAsking, Sem.run_bind, h1, Result.andThen_ok, Bool.false_eq_true, if_false, h2]
        rw [show i + 1 + j = i + (j + 1) from by omega]
theorem findNow_int {k : IntKind} {n : Int} : ∀ (es : List MapEntry) (i : Nat), (∀ e ∈ es, ∃ m, e.key = .int k m) →
    (Instr.findNow (.int k) (.int k n) es i = some none ∧ ∀ e ∈ es, e.key ≠ .int k n) ∨ ∃ j e, Instr.findNow (.int k) (.int k n) es i = some (some (i + j, e.val)) ∧ es[j]? = some e ∧ e.key = .int k n
  | [], i, _ => .inl ⟨rfl, by simp⟩
  | e :: es, i, h => by
    obtain ⟨m, hm⟩ := h e (by simp)
    by_cases he : n = m
    · right; subst he
      exact ⟨0, e, by simp [Instr.findNow, Instr.sameNow, hm], by simp, hm⟩
    · have hb : (n == m) = false := by simpa using he
      rcases findNow_int (n := n) es (i + 1) (fun e' he' => h e' (by simp [he'])) with ⟨h2, h3⟩ | ⟨j, e', h2, h3, h4⟩
      · left
        refine ⟨by simp [Instr.findNow, Instr.sameNow, hm, hb, h2], fun e' he' => ?_⟩
        rcases List.mem_cons.1 he' with rfl | he'
        · rw [hm]; intro e1; cases e1; exact he rfl
        · exact h3 e' he'
      · right
        refine ⟨j + 1, e', ?_, by simpa using h3, h4⟩
        simp only [Instr.findNow, Instr.sameNow, hm, if_true, hb, h2]
        rw [show i + 1 + j = i + (j + 1) from by omega]
theorem run_findKey {t : TypeId} {x : Value} (hx : KeyV P t x) (es : List MapEntry) (hes : ∀ e ∈ es, KeyV P t e.key) :
    ((Instr.findKey t x es).run P w = .ok none w ∧ ∀ e ∈ es, e.key ≠ x) ∨ ∃ j e, (Instr.findKey t x es).run P w = .ok (some (j, e.val)) w ∧ es[j]? = some e ∧ e.key = x := by
  rcases hx with ⟨k, n, hk, rfl⟩ | ⟨ks, ns, hf, hn, rfl⟩
  · have hu : (underlying t).run P w = .ok (.int k) w := by simp [underlying, hk]
    have hes' : ∀ e ∈ es, ∃ m, e.key = .int k m := fun e he => by
      rcases hes e he with ⟨k', m, hk', h⟩ | ⟨ks', ms, hf', _⟩
      · rw [hk] at hk'; cases hk'; exact ⟨m, h⟩
      · unfold flatTy at hf'; rw [hk] at hf'; cases hf'
    rcases findNow_int (n := n) es 0 hes' with ⟨h1, h2⟩ | ⟨j, e, h1, h2, h3⟩
    · left; exact ⟨by simp [Instr.findKey, hu, h1], h2⟩
    · right; exact ⟨j, e, by simp [Instr.findKey, hu, h1], h2, h3⟩
  · have hx : KeyV P t (.agg ⟨intsV ks ns⟩) := .inr ⟨ks, ns, hf, hn, rfl⟩
    have hu : ∃ fields, P.underlying t = some (.struct fields) := by
      unfold flatTy at hf; split at hf
      · rename_i fields hu; exact ⟨fields, hu⟩
      · cases hf
    obtain ⟨fields, hu⟩ := hu
    have hu' : (underlying t).run P w = .ok (.struct fields) w := by simp [underlying, hu]
    cases es with
    | nil => left; exact ⟨by simp [Instr.findKey, hu', Instr.findNow], by simp⟩
    | cons e es =>
      have hn1 : Instr.findNow (.struct fields) (.agg ⟨intsV ks ns⟩) (e :: es) 0 = none := by simp [Instr.findNow, Instr.sameNow]
      rcases findAsking_key (w := w) hx (e :: es) 0 hes with ⟨h1, h2⟩ | ⟨j, e', h1, h2, h3⟩
      · left; exact ⟨by simp [Instr.findKey, hu', hn1, h1], h2⟩
      · right; exact ⟨j, e', by simp only [Instr.findKey, Sem.run_bind, hu', Result.andThen_ok, hn1, h1, Nat.zero_add], h2, h3⟩
theorem run_checkKey' {t : TypeId} {x : Value} (hx : KeyV P t x) (em : Bool) (d : Nat) : (Instr.checkKey em (d + 1 + 1) t x).run P w = .ok () w := by
  rcases hx with ⟨k, n, hk, rfl⟩ | ⟨ks, ns, hf, hn, rfl⟩
  · have hu : (underlying t).run P w = .ok (.int k) w := by simp [underlying, hk]
    simp [Instr.checkKey, hu]
  · unfold flatTy at hf; split at hf
    case h_2 => cases hf
    rename_i fields hu
    have hu' : (underlying t).run P w = .ok (.struct fields) w := by simp [underlying, hu]
    obtain ⟨_, hf⟩ : P.stoodInHeld t = false ∧ flatFields P 0 fields.toList = some ks := by
      cases hs : P.stoodInHeld t
      · rw [hs] at hf; exact ⟨rfl, hf⟩
      · rw [hs] at hf; cases hf
    simp only [Instr.checkKey, Sem.run_bind, hu', Result.andThen_ok]
    rw [← Array.forIn_toList]
    have key : ∀ (fs : List Field) (ks : List IntKind) (off : Nat) (ns : List Int) (xs : List Value), flatFields P off fs = some ks → ns.length = ks.length → xs.drop off = intsV ks ns →
        (forIn (m := Sem) fs PUnit.unit fun f _ => do
          if f.name ≠ "_" then
            Instr.checkKey em (d + 1) f.type (← part f.type ⟨xs⟩ f.offset)
            pure (ForInStep.yield PUnit.unit)
          else pure (ForInStep.yield PUnit.unit)).run P w = .ok PUnit.unit w := by
      intro fs
      induction fs with
      | nil => intros; rfl
      | cons f fs ih =>
        intro ks off ns xs h hn hx
        unfold flatFields at h
        split at h
        case h_2 => cases h
        rename_i k hk
        cases hc : (f.offset == off) && !(f.name == "_")
        · rw [hc] at h; cases h
        · rw [hc] at h; simp only [cond_true] at h
          simp only [Bool.and_eq_true, beq_iff_eq, Bool.not_eq_true', beq_eq_false_iff_ne] at hc
          cases hr : flatFields P (off + 1) fs with
          | none => rw [hr] at h; cases h
          | some ks' =>
            rw [hr] at h; simp only [Option.map_some, Option.some.injEq] at h; subst h
            obtain ⟨hoff, hname⟩ := hc
            match ns, hn with
            | n :: ns, hn =>
              simp only [intsV, List.zip_cons_cons, List.map_cons] at hx
              have x1 : xs[off]? = some (.int k n) := by have := congrArg (·[0]?) hx; simpa using this
              have x2 : xs.drop (off + 1) = intsV ks' ns := by have := congrArg (List.drop 1) hx; simpa [intsV] using this
              have p1 := run_part_int (P := P) (w := w) hk ⟨xs⟩ off _ (by simpa using x1)
              have p2 : (Instr.checkKey em (d + 1) f.type (.int k n)).run P w = .ok () w := by
                have hu : (underlying f.type).run P w = .ok (.int k) w := by simp [underlying, hk]
                simp [Instr.checkKey, hu]
              subst hoff
              have := ih ks' (f.offset + 1) ns xs hr (by simpa using hn) x2
              simp only [List.forIn_cons, Sem.run_bind, ne_eq, hname, not_false_eq_true, if_true, p1, Result.andThen_ok, p2, Sem.run_pure]
              exact this
    have := key fields.toList ks 0 ns (intsV ks ns) hf hn (by simp)
    erw [this]
    rfl
theorem run_checkKey {t : TypeId} {x : Value} (hx : KeyV P t x) (em : Bool) : (Instr.checkKey em 10000 t x).run P w = .ok () w := run_checkKey' hx em 9998
theorem run_keyStays {t : TypeId} {x : Value} (hx : KeyV P t x) : (Instr.keyThatStays x x).run P w = .ok x w := by
  have hb : Instr.sameBits 10000 x x = true := by
    rcases hx with ⟨k, n, hk, rfl⟩ | ⟨ks, ns, hf, hn, rfl⟩
    · simp [Instr.sameBits]
    · simp only [Instr.sameBits, beq_self_eq_true, Bool.true_and, List.all_eq_true]
      intro p hp
      clear hf hn
      have : ∀ (l : List Value), (∀ v ∈ l, ∃ k n, v = .int k n) → ∀ p ∈ l.zip l, Instr.sameBits 9999 p.1 p.2 = true := by
        intro l
        induction l with
        | nil => simp
        | cons v l ih =>
          intro h p hp
          simp only [List.zip_cons_cons, List.mem_cons] at hp
          rcases hp with rfl | hp
          · obtain ⟨k, n, rfl⟩ := h v (by simp)
            simp [Instr.sameBits]
          · exact ih (fun v hv => h v (by simp [hv])) p hp
      refine this (intsV ks ns) (fun v hv => ?_) p hp
      simp only [intsV, List.mem_map] at hv
      obtain ⟨p, _, rfl⟩ := hv
      exact ⟨_, _, rfl⟩
  simp [Instr.keyThatStays, hb]
end Go.Fw

namespace Go.Fw
variable {P : Program} {B : Base} {γ : List Value} {H : HP} {own : List OE} {w : World} {a : Act} {ro : Option Nat} {o : Oper}

def intsA (ks : List IntKind) (ns : List Int) : List AV := (ks.zip ns).map fun p => .int p.1 p.2
def KeyOf (P : Program) (t : TypeId) (x : AV) : Prop := (∃ k n, P.underlying t = some (.int k) ∧ x = .int k n) ∨ ∃ ks ns, flatTy P t = some ks ∧ ns.length = ks.length ∧ x = .agg (intsA ks ns)
theorem concL_ints {γ : List Value} {H : HP} : ∀ {ks : List IntKind} {ns : List Int} {vs : List Value}, ConcL γ H (intsA ks ns) vs ↔ vs = intsV ks ns
  | [], ns, vs => by simp [intsA, intsV, ConcL]
  | k :: ks, [], vs => by simp [intsA, intsV, ConcL]
  | k :: ks, n :: ns, vs => by
    have ih : ∀ vs, ConcL γ H (intsA ks ns) vs ↔ vs = intsV ks ns := fun vs => concL_ints (ks := ks) (ns := ns) (vs := vs)
    simp only [intsA, intsV] at ih ⊢
    simp only [List.zip_cons_cons, List.map_cons, ConcL, Conc]
    constructor
    · rintro ⟨v, vs', rfl, rfl, h⟩; rw [(ih _).1 h]
    · rintro rfl; exact ⟨_, _, rfl, rfl, (ih _).2 rfl⟩
def KeyIs (P : Program) (t : TypeId) (x : AV) (v : Value) : Prop := (∃ k n, P.underlying t = some (.int k) ∧ x = .int k n ∧ v = .int k n) ∨
  ∃ ks ns, flatTy P t = some ks ∧ ns.length = ks.length ∧ x = .agg (intsA ks ns) ∧ v = .agg ⟨intsV ks ns⟩
theorem keyIs_of {t : TypeId} {x : AV} {v : Value} (h : KeyOf P t x) (hc : Conc γ H x v) : KeyIs P t x v := by
  rcases h with ⟨k, n, hk, rfl⟩ | ⟨ks, ns, hf, hn, rfl⟩
  · exact .inl ⟨k, n, hk, rfl, conc_int.1 hc⟩
  · obtain ⟨vs, rfl, hl⟩ := conc_agg.1 hc
    exact .inr ⟨ks, ns, hf, hn, rfl, by rw [concL_ints.1 hl]⟩
theorem KeyIs.v {t : TypeId} {x : AV} {v : Value} (h : KeyIs P t x v) : KeyV P t v := by
  rcases h with ⟨k, n, hk, rfl, rfl⟩ | ⟨ks, ns, hf, hn, rfl, rfl⟩
  · exact .inl ⟨k, n, hk, rfl⟩
  · exact .inr ⟨ks, ns, hf, hn, rfl⟩
theorem intsV_inj : ∀ {ks : List IntKind} {ns ms : List Int}, ns.length = ks.length → ms.length = ks.length → intsV ks ns = intsV ks ms → ns = ms
  | [], ns, ms, h1, h2, _ => by rw [List.length_eq_zero_iff.1 h1, List.length_eq_zero_iff.1 h2]
  | k :: ks, n :: ns, m :: ms, h1, h2, h => by
    simp only [intsV, List.zip_cons_cons, List.map_cons, List.cons.injEq, Value.int.injEq, true_and] at h
    rw [h.1, intsV_inj (ks := ks) (by simpa using h1) (by simpa using h2) h.2]
theorem KeyIs.inj {t : TypeId} {x y : AV} {u v : Value} (h : KeyIs P t x u) (h' : KeyIs P t y v) : u = v ↔ x = y := by
  rcases h with ⟨k, n, hk, rfl, rfl⟩ | ⟨ks, ns, hf, hn, rfl, rfl⟩
  · rcases h' with ⟨k', n', hk', rfl, rfl⟩ | ⟨ks', ns', hf', hn', rfl, rfl⟩
    · simp
    · simp
  · rcases h' with ⟨k', n', hk', rfl, rfl⟩ | ⟨ks', ns', hf', hn', rfl, rfl⟩
    · simp
    · rw [hf] at hf'; cases hf'
      constructor
      · intro e
        have : intsV ks ns = intsV ks ns' := by injection e with e; injection e
        rw [intsV_inj hn hn' this]
      · intro e
        have e' : intsA ks ns = intsA ks ns' := by injection e
        have h1 : ConcL ([] : List Value) (fun _ => none) (intsA ks ns) (intsV ks ns) := concL_ints.2 rfl
        rw [e'] at h1
        rw [concL_ints.1 h1]
theorem mem_zip_get {α β : Type} {l : List α} {m : List β} {a : α} {b : β} (h : (a, b) ∈ l.zip m) : ∃ j : Nat, l[j]? = some a ∧ m[j]? = some b := by
  obtain ⟨j, hj⟩ := List.mem_iff_getElem?.1 h
  rw [List.getElem?_zip_eq_some] at hj
  exact ⟨j, hj⟩
theorem nodup_get {α : Type} {l : List α} (h : l.Nodup) {i j : Nat} {x : α} (hi : l[i]? = some x) (hj : l[j]? = some x) : i = j := by
  obtain ⟨h1, e1⟩ := List.getElem?_eq_some_iff.1 hi
  obtain ⟨h2, e2⟩ := List.getElem?_eq_some_iff.1 hj
  exact (List.getElem_inj h).1 (e1.trans e2.symm)
structure Ents (γ : List Value) (H : HP) (ks vs : List AV) (es : List MapEntry) : Prop where
  k : ConcL γ H ks (es.map (·.key))
  v : ConcL γ H vs (es.map (·.val))
theorem concL_get' : ∀ {l : List AV} {vs : List Value} {i : Nat} {v : Value}, ConcL γ H l vs → vs[i]? = some v → ∃ x, l[i]? = some x ∧ Conc γ H x v
  | [], vs, i, v, h, hv => by simp [ConcL] at h; subst h; simp at hv
  | y :: l, vs, i, v, h, hv => by
    obtain ⟨u, us, rfl, hu, h'⟩ := h
    cases i with
    | zero => simp at hv; subst hv; exact ⟨y, by simp, hu⟩
    | succ i => simp at hv ⊢; exact concL_get' h' hv
theorem Ents.at {ks vs : List AV} {es : List MapEntry} (h : Ents γ H ks vs es) {j : Nat} {e : MapEntry} (hj : es[j]? = some e) : ∃ x y, ks[j]? = some x ∧ vs[j]? = some y ∧ Conc γ H x e.key ∧ Conc γ H y e.val := by
  obtain ⟨x, h1, h2⟩ := concL_get' (i := j) (v := e.key) h.k (by simp [hj])
  obtain ⟨y, h3, h4⟩ := concL_get' (i := j) (v := e.val) h.v (by simp [hj])
  exact ⟨x, y, h1, h3, h2, h4⟩
theorem find_told {t : TypeId} {ks vs : List AV} {es ents : List MapEntry} {key : AV} {kv : Value} (hE : Ents γ H ks vs es) (hp : es.Perm ents) (hks : ∀ k ∈ ks, KeyOf P t k) (hkey : KeyOf P t key) (hc : Conc γ H key kv) :
    ((Instr.findKey t kv ents).run P w = .ok none w ∧ (∀ e ∈ ents, e.key ≠ kv) ∧ key ∉ ks) ∨
    ∃ (i : Nat) (e : MapEntry) (j : Nat), (Instr.findKey t kv ents).run P w = .ok (some (i, e.val)) w ∧ ents[i]? = some e ∧ e.key = kv ∧ es[j]? = some e ∧ ks[j]? = some key := by
  have hall : ∀ (j : Nat) (e : MapEntry), es[j]? = some e → ∃ x y, ks[j]? = some x ∧ vs[j]? = some y ∧ KeyIs P t x e.key ∧ Conc γ H y e.val := fun j e hj => by
    obtain ⟨x, y, h1, h2, h3, h4⟩ := hE.at hj
    exact ⟨x, y, h1, h2, keyIs_of (hks x (List.mem_of_getElem? h1)) h3, h4⟩
  have hkv := keyIs_of hkey hc
  have hents : ∀ e ∈ ents, KeyV P t e.key := fun e he => by
    obtain ⟨j, hj⟩ := List.mem_iff_getElem?.1 (hp.mem_iff.2 he)
    obtain ⟨x, y, _, _, h, _⟩ := hall j e hj
    exact h.v
  rcases run_findKey (w := w) hkv.v ents hents with ⟨h1, h2⟩ | ⟨i, e, h1, h2, h3⟩
  · refine .inl ⟨h1, h2, fun hm => ?_⟩
    obtain ⟨j, hj⟩ := List.mem_iff_getElem?.1 hm
    obtain ⟨v, hv, hcv⟩ := concL_get hE.k hj
    simp only [List.getElem?_map, Option.map_eq_some_iff] at hv
    obtain ⟨e, he, rfl⟩ := hv
    have := (KeyIs.inj (keyIs_of hkey hcv) hkv).2 rfl
    exact h2 e (hp.mem_iff.1 (List.mem_of_getElem? he)) this
  · obtain ⟨j, hj⟩ := List.mem_iff_getElem?.1 (hp.mem_iff.2 (List.mem_of_getElem? h2))
    obtain ⟨x, y, hx, _, hk, _⟩ := hall j e hj
    refine .inr ⟨i, e, j, h1, h2, h3, hj, ?_⟩
    rw [hx]; congr 1
    exact (hk.inj hkv).1 h3
def LookOK (P : Program) (t : TypeId) (ks vs : List AV) (key r z : AV) (c : Bool) : Prop := (∀ k ∈ ks, KeyOf P t k) ∧ KeyOf P t key ∧ ks.Nodup ∧ ((c = true ∧ (key, r) ∈ ks.zip vs) ∨ (c = false ∧ key ∉ ks ∧ r = z))
theorem look_run {t kt et : TypeId} {ks vs : List AV} {es : List MapEntry} {ents : Array MapEntry} {key r z : AV} {kv : Value} {c ok : Bool} {b clk : Nat} (ht : P.underlying t = some (.map kt et)) (hz : zeroAV P et = some z)
    (hb : w.heap[b]? = some (.map ents clk)) (hE : Ents γ H ks vs es) (hp : es.Perm ents.toList) (hc : Conc γ H key kv) (hL : LookOK P kt ks vs key r z c) :
    ∃ v, (Instr.lookup t (.map (some b)) kv ok).run P w = .ok v w ∧ Conc γ H (if ok then .tup [r, .bool c] else r) v := by
  obtain ⟨h1, h2, h3, h4⟩ := hL
  have hu : (underlying t).run P w = .ok (.map kt et) w := by simp [underlying, ht]
  have hk := run_checkKey (P := P) (w := w) (keyIs_of h2 hc).v ents.isEmpty
  have hg : (getObj b).run P w = .ok (.map ents clk) w := by simp [getObj, Sem.run, hb]
  obtain ⟨zv, hzr, hzc⟩ := zeroAV_run (P := P) (w := w) (γ := γ) (H := H) hz
  have wrap : ∀ {x : AV} {u : Value}, Conc γ H x u → ∃ v, (if ok then Value.tuple #[u, .bool c] else u) = v ∧ Conc γ H (if ok then .tup [x, .bool c] else x) v := by
    intro x u hx
    cases ok
    · exact ⟨u, rfl, hx⟩
    · exact ⟨_, rfl, conc_tup.2 ⟨[u, .bool c], rfl, u, _, rfl, hx, _, _, rfl, rfl, rfl⟩⟩
  rcases find_told (P := P) (w := w) hE hp h1 h2 hc with ⟨f1, f2, f3⟩ | ⟨i, e, j, f1, f2, f3, f4, f5⟩
  · rcases h4 with ⟨_, hm⟩ | ⟨rfl, _, rfl⟩
    · obtain ⟨j, hj, _⟩ := mem_zip_get hm
      exact absurd (List.mem_of_getElem? hj) f3
    · obtain ⟨v, hv, hcv⟩ := wrap hzc
      refine ⟨v, ?_, hcv⟩
      simp only [Instr.lookup, Sem.run_bind, hu, Result.andThen_ok, hg, Sem.run_pure, hk, f1, hzr]
      rw [← hv]
  · rcases h4 with ⟨rfl, hm⟩ | ⟨_, hm, _⟩
    · obtain ⟨j', hj', hr⟩ := mem_zip_get hm
      have := nodup_get h3 f5 hj'
      subst this
      obtain ⟨x, y, _, hy, _, hcy⟩ := hE.at f4
      rw [hr] at hy; cases hy
      obtain ⟨v, hv, hcv⟩ := wrap hcy
      refine ⟨v, ?_, hcv⟩
      simp only [Instr.lookup, Sem.run_bind, hu, Result.andThen_ok, hg, Sem.run_pure, hk, f1]
      rw [← hv]
    · exact absurd (List.mem_of_getElem? f5) hm
theorem ex_lookup_fm {t kt et : TypeId} {x y : Operand} {ok c : Bool} {ks vs : List AV} {key r z : AV} (ho : o.op = .lookup t x y ok) (hO : OwnOK B γ H own w) (hx : Conc γ H (.fm ks vs) (a.eval x)) (hy : Conc γ H key (a.eval y))
    (ht : P.underlying t = some (.map kt et)) (hz : zeroAV P et = some z) (hL : LookOK P kt ks vs key r z c) : Exec P ro o a w (ResP B γ H own (if ok then .tup [r, .bool c] else r)) := by
  simp only [Conc] at hx
  obtain ⟨b, ents, clk, es, hv, hb, hp, hk, hvs, _, _⟩ := hx
  obtain ⟨v, hr, hc⟩ := look_run (ok := ok) (γ := γ) (H := H) ht hz (hO.fro _ _ hb) ⟨concL_open hk, concL_open hvs⟩ hp hy hL
  refine exec_val (semAt_of ho (by simp)) (v := v) (w' := w) ?_ (ResP.same hO hc)
  simp only [execOp, ho, hv, Sem.run_bind, hr, Result.andThen_ok, Sem.run_pure]
theorem ex_lookup_mp {t kt et : TypeId} {x y : Operand} {ok c : Bool} {i : Nat} {ks vs : List AV} {key r z : AV} (ho : o.op = .lookup t x y ok) (hO : OwnOK B γ H own w) (hx : Conc γ H (.mp i) (a.eval x)) (hi : own[i]? = some (.map ks vs)) (hy : Conc γ H key (a.eval y))
    (ht : P.underlying t = some (.map kt et)) (hz : zeroAV P et = some z) (hL : LookOK P kt ks vs key r z c) : Exec P ro o a w (ResP B γ H own (if ok then .tup [r, .bool c] else r)) := by
  simp only [Conc] at hx
  obtain ⟨b, ents, clk, es, hg, ⟨hb, _, _⟩, hp, hk, hvs⟩ := hO.ent i _ hi
  have hv : a.eval x = .map (some b) := by rw [hx.1] at hg; exact Option.some.inj hg
  obtain ⟨v, hr, hc⟩ := look_run (ok := ok) (γ := γ) (H := H) ht hz hb ⟨concL_open hk, concL_open hvs⟩ hp hy hL
  refine exec_val (semAt_of ho (by simp)) (v := v) (w' := w) ?_ (ResP.same hO hc)
  simp only [execOp, ho, hv, Sem.run_bind, hr, Result.andThen_ok, Sem.run_pure]
theorem run_setObj {b : Nat} {ents : Array MapEntry} {clk : Nat} {o' : Obj} (hb : w.heap[b]? = some (.map ents clk)) : (setObj b o').run P w = .ok () { w with heap := w.heap.setIfInBounds b o' } := by
  simp [setObj, Sem.run, hb]
theorem heap_set_same {b : Nat} {o o' : Obj} (hb : w.heap[b]? = some o) : (w.heap.setIfInBounds b o')[b]? = some o' := by
  have := (Array.getElem?_eq_some_iff.1 hb).1
  simp [this]
theorem heap_set_other {b k : Nat} {o' : Obj} (h : k ≠ b) : (w.heap.setIfInBounds b o')[k]? = w.heap[k]? := by
  rw [Array.getElem?_setIfInBounds, if_neg (Ne.symm h)]
theorem keyClosed {t : TypeId} {x : AV} {v : Value} (h : KeyOf P t x) (hc : Conc γ H x v) : Conc [] H x v := by
  rcases h with ⟨k, n, hk, rfl⟩ | ⟨ks, ns, hf, hn, rfl⟩
  · exact conc_int.2 (conc_int.1 hc)
  · obtain ⟨vs, rfl, hl⟩ := conc_agg.1 hc
    exact conc_agg.2 ⟨vs, rfl, concL_ints.2 (concL_ints.1 hl)⟩
def PutOK (P : Program) (t : TypeId) (ks vs : List AV) (key val : AV) (ks' vs' : List AV) : Prop := (∀ k ∈ ks, KeyOf P t k) ∧ KeyOf P t key ∧ ks.Nodup ∧
  ((key ∉ ks ∧ ks' = ks ++ [key] ∧ vs' = vs ++ [val]) ∨ ∃ j, ks[j]? = some key ∧ ks' = ks ∧ vs' = vs.set j val)
theorem born_at {l : List MapEntry} (hn : (l.map (·.born)).Nodup) {x e : MapEntry} (hx : x ∈ l) (he : e ∈ l) (h : x.born = e.born) : x = e := by
  obtain ⟨i, hi⟩ := List.mem_iff_getElem?.1 hx
  obtain ⟨j, hj⟩ := List.mem_iff_getElem?.1 he
  have h1 : (l.map (·.born))[i]? = some e.born := by simp [hi, h]
  have h2 : (l.map (·.born))[j]? = some e.born := by simp [hj]
  have := nodup_get hn h1 h2
  subst this; rw [hi] at hj; exact Option.some.inj hj
theorem erase_perm : ∀ {l : List MapEntry} {i : Nat} {x : MapEntry}, l[i]? = some x → l.Perm (x :: l.eraseIdx i)
  | [], i, x, h => by simp at h
  | y :: l, 0, x, h => by simp at h; subst h; exact List.Perm.refl _
  | y :: l, i + 1, x, h => by
    simp at h
    exact ((erase_perm h).cons y).trans (List.Perm.swap x y _)
theorem eraseIdx_set {α : Type} : ∀ {l : List α} {i : Nat} {x : α}, (l.set i x).eraseIdx i = l.eraseIdx i
  | [], i, x => by simp
  | y :: l, 0, x => by simp
  | y :: l, i + 1, x => by simp [eraseIdx_set (l := l)]
theorem map_eraseIdx {α β : Type} {f : α → β} : ∀ {l : List α} {i : Nat}, (l.eraseIdx i).map f = (l.map f).eraseIdx i
  | [], i => by simp
  | y :: l, 0 => by simp
  | y :: l, i + 1 => by simp [map_eraseIdx (l := l)]
theorem modify_set {α : Type} {f : α → α} : ∀ {l : List α} {i : Nat} {x : α}, l[i]? = some x → l.modify i f = l.set i (f x)
  | [], i, x, h => by simp at h
  | y :: l, 0, x, h => by simp at h; subst h; simp
  | y :: l, i + 1, x, h => by simp at h; simp [modify_set h]
theorem perm_modify {es ents : List MapEntry} (hp : es.Perm ents) (hn : (ents.map (·.born)).Nodup) {i j : Nat} {e : MapEntry} (hi : ents[i]? = some e) (hj : es[j]? = some e) (f : MapEntry → MapEntry) : (es.set j (f e)).Perm (ents.set i (f e)) := by
  obtain ⟨hi1, hi2⟩ := List.getElem?_eq_some_iff.1 hi
  obtain ⟨hj1, hj2⟩ := List.getElem?_eq_some_iff.1 hj
  have s1 : es.Perm (e :: es.eraseIdx j) := erase_perm hj
  have s2 : ents.Perm (e :: ents.eraseIdx i) := erase_perm hi
  have s3 : (es.eraseIdx j).Perm (ents.eraseIdx i) := (s1.symm.trans (hp.trans s2)).cons_inv
  have s4 : (es.set j (f e)).Perm (f e :: es.eraseIdx j) := by
    have := erase_perm (l := es.set j (f e)) (i := j) (x := f e) (by simp [hj1])
    rwa [eraseIdx_set] at this
  have s5 : (ents.set i (f e)).Perm (f e :: ents.eraseIdx i) := by
    have := erase_perm (l := ents.set i (f e)) (i := i) (x := f e) (by simp [hi1])
    rwa [eraseIdx_set] at this
  exact s4.trans ((s3.cons _).trans s5.symm)
theorem concL_eraseIdx : ∀ {l : List AV} {vs : List Value} (i : Nat), ConcL γ H l vs → ConcL γ H (l.eraseIdx i) (vs.eraseIdx i)
  | [], vs, i, h => by simp [ConcL] at h; subst h; simp [ConcL]
  | y :: l, vs, i, h => by
    obtain ⟨u, us, rfl, hu, h'⟩ := h
    cases i with
    | zero => exact h'
    | succ i => exact ⟨u, us.eraseIdx i, rfl, hu, concL_eraseIdx i h'⟩
theorem ex_mapUpdate {t kt et : TypeId} {x y z : Operand} {i : Nat} {ks vs ks' vs' : List AV} {key val : AV} (ho : o.op = .mapUpdate t x y z) (hO : OwnOK B γ H own w) (hx : Conc γ H (.mp i) (a.eval x)) (hi : own[i]? = some (.map ks vs)) (hy : Conc γ H key (a.eval y))
    (hz : Conc [] H val (a.eval z)) (ht : P.underlying t = some (.map kt et)) (hL : PutOK P kt ks vs key val ks' vs') : Exec P ro o a w (ResP B γ H (own.set i (.map ks' vs')) (.tup [])) := by
  simp only [Conc] at hx
  obtain ⟨b, ents, clk, es, hg, ⟨hb, hn, hlt⟩, hp, hk, hvs⟩ := hO.ent i _ hi
  have hv : a.eval x = .map (some b) := by rw [hx.1] at hg; exact Option.some.inj hg
  obtain ⟨h1, h2, h3, h4⟩ := hL
  have hu : (underlying t).run P w = .ok (.map kt et) w := by simp [underlying, ht]
  have hck := run_checkKey (P := P) (w := w) (keyIs_of h2 hy).v false
  have hgo : (getObj b).run P w = .ok (.map ents clk) w := by simp [getObj, Sem.run, hb]
  have hE : Ents γ H ks vs es := ⟨concL_open hk, concL_open hvs⟩
  have fin : ∀ (ents' : Array MapEntry) (clk' : Nat) (es' : List MapEntry), (∀ r : Result Next, True) → (ents'.toList.map (·.born)).Nodup → (∀ e ∈ ents'.toList, e.born < clk') → es'.Perm ents'.toList → ConcL [] H ks' (es'.map (·.key)) → ConcL [] H vs' (es'.map (·.val)) →
      ResP B γ H (own.set i (.map ks' vs')) (.tup []) undef { w with heap := w.heap.setIfInBounds b (.map ents' clk') } := by
    intro ents' clk' es' _ q1 q2 q3 q4 q5
    refine ⟨γ, H, Ext.refl γ, HLe.refl H, hO.upd (b := b) hi (by simp) hg rfl (fun k hk => heap_set_other hk) (by simp) rfl rfl rfl ⟨b, ents', clk', es', hg, ⟨heap_set_same hb, q1, q2⟩, q3, q4, q5⟩, conc_tup.2 ⟨[], rfl, rfl⟩⟩
  rcases find_told (P := P) (w := w) hE hp h1 h2 hy with ⟨f1, f2, f3⟩ | ⟨j, e, j', f1, f2, f3, f4, f5⟩
  · rcases h4 with ⟨_, rfl, rfl⟩ | ⟨j, hj, _⟩
    · refine exec_unit (semAt_of ho (by simp)) (w' := { w with heap := w.heap.setIfInBounds b (.map (ents.push { key := a.eval y, val := a.eval z, born := clk }) (clk + 1)) }) ?_
        (fin _ _ (es ++ [{ key := a.eval y, val := a.eval z, born := clk }]) (fun _ => trivial) ?_ ?_ ?_ ?_ ?_)
      · simp only [execOp, ho, Instr.mapUpdate, Sem.run_bind, hu, Result.andThen_ok, hv, hgo, hck, f1, run_setObj hb, Sem.run_pure]
      · simp only [Array.toList_push, List.map_append, List.map_cons, List.map_nil]
        refine List.nodup_append.2 ⟨hn, by simp, fun x hx y hy => ?_⟩
        obtain ⟨e, he, rfl⟩ := List.mem_map.1 hx
        simp at hy; subst hy
        have := hlt e he; omega
      · intro e he
        simp only [Array.toList_push, List.mem_append, List.mem_singleton] at he
        rcases he with he | rfl
        · have := hlt e he; omega
        · simp
      · simpa using hp.append_right _
      · simp only [List.map_append, List.map_cons, List.map_nil]
        exact concL_append hk ⟨_, [], rfl, keyClosed h2 hy, rfl⟩
      · simp only [List.map_append, List.map_cons, List.map_nil]
        exact concL_append hvs ⟨_, [], rfl, hz, rfl⟩
    · exact absurd (List.mem_of_getElem? hj) f3
  · rcases h4 with ⟨hno, _⟩ | ⟨j2, hj2, rfl, rfl⟩
    · exact absurd (List.mem_of_getElem? f5) hno
    · have := nodup_get h3 f5 hj2
      subst this
      have hst := run_keyStays (P := P) (w := w) (keyIs_of h2 hy).v
      have e2 : ents[j]? = some e := by rw [← Array.getElem?_toList]; exact f2
      have hmod : (ents.modify j fun e => { e with key := a.eval y, val := a.eval z }).toList = ents.toList.set j { e with key := a.eval y, val := a.eval z } := by
        rw [Array.toList_modify]
        rw [modify_set f2]
      refine exec_unit (semAt_of ho (by simp)) (w' := { w with heap := w.heap.setIfInBounds b (.map (ents.modify j fun e => { e with key := a.eval y, val := a.eval z }) clk) }) ?_
        (fin _ _ (es.set j' { e with key := a.eval y, val := a.eval z }) (fun _ => trivial) ?_ ?_ ?_ ?_ ?_)
      · simp only [execOp, ho, Instr.mapUpdate, Sem.run_bind, hu, Result.andThen_ok, hv, hgo, hck, f1, e2, Option.map_some, Option.getD_some, f3, hst, run_setObj hb, Sem.run_pure]
      · rw [hmod, List.map_set]
        have : (ents.toList.map (·.born)).set j e.born = ents.toList.map (·.born) := by
          apply List.ext_getElem?
          intro m
          rw [List.getElem?_set]
          split
          · rename_i hm; subst hm
            split
            · simp [f2]
            · rename_i hlen; simp only [List.length_map] at hlen; have := (List.getElem?_eq_some_iff.1 f2).1; omega
          · rfl
        simp only
        rw [this]; exact hn
      · intro e' he'
        rw [hmod] at he'
        rcases List.mem_or_eq_of_mem_set he' with h | rfl
        · exact hlt _ h
        · exact hlt e (List.mem_of_getElem? f2)
      · rw [hmod]
        exact perm_modify hp hn f2 f4 (fun e => { e with key := a.eval y, val := a.eval z })
      · rw [List.map_set]
        have : (es.map (·.key)).set j' (a.eval y) = es.map (·.key) := by
          apply List.ext_getElem?
          intro m
          rw [List.getElem?_set]
          split
          · rename_i hm; subst hm
            split
            · simp [f4, f3]
            · rename_i hlen; simp only [List.length_map] at hlen; have := (List.getElem?_eq_some_iff.1 f4).1; omega
          · rfl
        simp only
        rw [this]; exact hk
      · rw [List.map_set]; exact concL_set hvs hz
def DelOK (P : Program) (t : TypeId) (ks vs : List AV) (key : AV) (ks' vs' : List AV) : Prop := (∀ k ∈ ks, KeyOf P t k) ∧ KeyOf P t key ∧ ks.Nodup ∧
  ((key ∉ ks ∧ ks' = ks ∧ vs' = vs) ∨ ∃ j, ks[j]? = some key ∧ ks' = ks.eraseIdx j ∧ vs' = vs.eraseIdx j)
theorem perm_erase {es ents : List MapEntry} (hp : es.Perm ents) {i j : Nat} {e : MapEntry} (hi : ents[i]? = some e) (hj : es[j]? = some e) : (es.eraseIdx j).Perm (ents.eraseIdx i) := by
  obtain ⟨hi1, hi2⟩ := List.getElem?_eq_some_iff.1 hi
  obtain ⟨hj1, hj2⟩ := List.getElem?_eq_some_iff.1 hj
  have s1 : es.Perm (e :: es.eraseIdx j) := erase_perm hj
  have s2 : ents.Perm (e :: ents.eraseIdx i) := erase_perm hi
  exact (s1.symm.trans (hp.trans s2)).cons_inv
theorem ex_delete {t t' kt et : TypeId} {x y : Operand} {i : Nat} {ks vs ks' vs' : List AV} {key : AV} (ho : o.op = .call { callee := .builtin .delete, args := #[x, y], argTypes := #[t, t'] }) (hO : OwnOK B γ H own w) (hx : Conc γ H (.mp i) (a.eval x))
    (hi : own[i]? = some (.map ks vs)) (hy : Conc γ H key (a.eval y)) (ht : P.underlying t = some (.map kt et)) (hL : DelOK P kt ks vs key ks' vs') : Exec P ro o a w (ResP B γ H (own.set i (.map ks' vs')) (.tup [])) := by
  simp only [Conc] at hx
  obtain ⟨b, ents, clk, es, hg, ⟨hb, hn, hlt⟩, hp, hk, hvs⟩ := hO.ent i _ hi
  have hv : a.eval x = .map (some b) := by rw [hx.1] at hg; exact Option.some.inj hg
  obtain ⟨h1, h2, h3, h4⟩ := hL
  have hu : (underlying t).run P w = .ok (.map kt et) w := by simp [underlying, ht]
  have hck := run_checkKey (P := P) (w := w) (keyIs_of h2 hy).v ents.isEmpty
  have hgo : (getObj b).run P w = .ok (.map ents clk) w := by simp [getObj, Sem.run, hb]
  have hE : Ents γ H ks vs es := ⟨concL_open hk, concL_open hvs⟩
  have fin : ∀ (ents' : Array MapEntry) (es' : List MapEntry), (ents'.toList.map (·.born)).Nodup → (∀ e ∈ ents'.toList, e.born < clk) → es'.Perm ents'.toList → ConcL [] H ks' (es'.map (·.key)) → ConcL [] H vs' (es'.map (·.val)) →
      ResP B γ H (own.set i (.map ks' vs')) (.tup []) (.tuple #[]) { w with heap := w.heap.setIfInBounds b (.map ents' clk) } := by
    intro ents' es' q1 q2 q3 q4 q5
    refine ⟨γ, H, Ext.refl γ, HLe.refl H, hO.upd (b := b) hi (by simp) hg rfl (fun k hk => heap_set_other hk) (by simp) rfl rfl rfl ⟨b, ents', clk, es', hg, ⟨heap_set_same hb, q1, q2⟩, q3, q4, q5⟩, conc_tup.2 ⟨[], rfl, rfl⟩⟩
  rcases find_told (P := P) (w := w) hE hp h1 h2 hy with ⟨f1, f2, f3⟩ | ⟨j, e, j', f1, f2, f3, f4, f5⟩
  · rcases h4 with ⟨_, rfl, rfl⟩ | ⟨j, hj, _⟩
    · refine exec_val (semAt_of ho (by simp)) (v := .tuple #[]) (w' := { w with heap := w.heap.setIfInBounds b (.map ents clk) }) ?_ (fin ents es hn hlt hp hk hvs)
      simp only [execOp, ho, resolve, invoke, builtin, Builtin.delete_, Sem.run_bind, Sem.run_pure, Result.andThen_ok, List.map_toArray, List.map_cons, List.map_nil, hu, hv, hgo, hck, f1, run_setObj hb, List.getElem?_toArray, List.getElem?_cons_zero, List.getElem?_cons_succ]
    · exact absurd (List.mem_of_getElem? hj) f3
  · rcases h4 with ⟨hno, _⟩ | ⟨j2, hj2, rfl, rfl⟩
    · exact absurd (List.mem_of_getElem? f5) hno
    · have := nodup_get h3 f5 hj2
      subst this
      have hlt' := (List.getElem?_eq_some_iff.1 f2).1
      have hers : (ents.eraseIdxIfInBounds j).toList = ents.toList.eraseIdx j := by
        simp only [Array.length_toList] at hlt'
        simp [Array.eraseIdxIfInBounds, hlt']
      refine exec_val (semAt_of ho (by simp)) (v := .tuple #[]) (w' := { w with heap := w.heap.setIfInBounds b (.map (ents.eraseIdxIfInBounds j) clk) }) ?_ (fin _ (es.eraseIdx j') ?_ ?_ ?_ ?_ ?_)
      · simp only [execOp, ho, resolve, invoke, builtin, Builtin.delete_, Sem.run_bind, Sem.run_pure, Result.andThen_ok, List.map_toArray, List.map_cons, List.map_nil, hu, hv, hgo, hck, f1, run_setObj hb, List.getElem?_toArray, List.getElem?_cons_zero, List.getElem?_cons_succ]
      · rw [hers]
        exact (List.Sublist.map _ (List.eraseIdx_sublist _ _)).nodup hn
      · intro e he; rw [hers] at he; exact hlt e (List.mem_of_mem_eraseIdx he)
      · rw [hers]; exact perm_erase hp f2 f4
      · rw [map_eraseIdx]; exact concL_eraseIdx _ hk
      · rw [map_eraseIdx]; exact concL_eraseIdx _ hvs
end Go.Fw

namespace Go.Fw
variable {P : Program} {B : Base} {γ : List Value} {H : HP} {own : List OE} {w : World} {a : Act} {ro : Option Nat} {o : Oper}

theorem ex_range_fm {t kt et : TypeId} {x : Operand} {ks vs : List AV} (ho : o.op = .range t x) (hO : OwnOK B γ H own w) (hx : Conc γ H (.fm ks vs) (a.eval x)) (ht : P.underlying t = some (.map kt et)) :
    Exec P ro o a w (ResP B γ H (own ++ [.iter ks vs none]) (.itr own.length)) := by
  simp only [Conc] at hx
  obtain ⟨b, ents, clk, es, hv, hb, hp, hk, hvs, hn, hlt⟩ := hx
  have hu : (underlying t).run P w = .ok (.map kt et) w := by simp [underlying, ht]
  have hgo : (getObj b).run P w = .ok (.map ents clk) w := by simp [getObj, Sem.run, hO.fro _ _ hb]
  refine exec_val (semAt_of ho (by simp)) (v := .pointer (some ⟨w.heap.size, 0, none⟩)) (w' := w.alloc (.mapIter (some b) clk #[] clk)) ?_ ⟨γ ++ [.pointer (some ⟨w.heap.size, 0, none⟩)], H, Ext.snoc γ _, HLe.refl H, hO.alloc rfl ?_, ?_⟩
  · simp [execOp, ho, Instr.range, hu, hv, hgo]
  · refine ⟨w.heap.size, b, ents, clk, #[], es, by simp [← hO.len], by show (w.heap.push _)[w.heap.size]? = _; simp, hb, ⟨hn, hlt⟩, fun e he => by simp [hp.mem_iff.2 he], fun e he => hp.mem_iff.1 he, ?_, hk, hvs, by simp⟩
    have h1 : (es.map (·.born)).Nodup := (hp.map _).nodup_iff.2 hn
    exact List.Pairwise.imp (fun h e => h (by rw [e])) (List.pairwise_map.1 h1)
  · rw [← hO.len]; simp [Conc]
theorem ex_entry {x : Operand} {i : Nat} {rk rv : List AV} {c : AV × AV} (ho : o.op = .entry x) (hO : OwnOK B γ H own w) (hx : Conc γ H (.itr i) (a.eval x)) (hi : own[i]? = some (.iter rk rv (some c))) :
    Exec P ro o a w (ResP B γ H own (.tup [c.1, c.2])) := by
  simp only [Conc] at hx
  obtain ⟨r, b, ents, clk, seen, left, hg, hr, hb, ⟨hn, hlt⟩, _, _, _, _, _, hcur⟩ := hO.ent i _ hi
  have hv : a.eval x = .pointer (some ⟨r, 0, none⟩) := by rw [hx.1] at hg; exact Option.some.inj hg
  obtain ⟨e, he, hs, h1, h2⟩ := hcur c rfl
  refine exec_val (semAt_of ho (by simp)) (v := .tuple #[e.key, e.val]) (w' := w) ?_ (ResP.same hO (conc_tup.2 ⟨[e.key, e.val], rfl, _, _, rfl, conc_open h1, _, _, rfl, conc_open h2, rfl⟩))
  have hgr : (getObj r).run P w = .ok (.mapIter (some b) clk seen clk) w := by simp [getObj, Sem.run, hr]
  have hgb : (getObj b).run P w = .ok (.map ents clk) w := by simp [getObj, Sem.run, hO.fro _ _ hb]
  have hf : ents.find? (·.born == e.born) = some e := by rw [← Array.find?_toList]; exact find_born e ents.toList hn he
  simp only [execOp, ho, Instr.entry, hv, Sem.run_bind, hgr, Result.andThen_ok, hs, hgb, bne_self_eq_false, Bool.false_eq_true, if_false, hf, Sem.run_pure]
theorem ex_next {x : Operand} {i : Nat} {rk rv : List AV} {cur : Option (AV × AV)} (ho : o.op = .next x false) (hO : OwnOK B γ H own w) (hx : Conc γ H (.itr i) (a.eval x)) (hi : own[i]? = some (.iter rk rv cur)) :
    Exec P ro o a w (fun v w' => (rk = [] ∧ ResP B γ H own (.tup [.bool false]) v w') ∨
      ∃ (j : Nat) (k y : AV), rk[j]? = some k ∧ rv[j]? = some y ∧ ResP B γ H (own.set i (.iter (rk.eraseIdx j) (rv.eraseIdx j) (some (k, y)))) (.tup [.bool true, k, y]) v w') := by
  simp only [Conc] at hx
  obtain ⟨r, b, ents, clk, seen, left, hg, hr, hb, ⟨hn, hlt⟩, hleft, hsub, hnd, hk, hvs, hcur⟩ := hO.ent i _ hi
  have hv : a.eval x = .pointer (some ⟨r, 0, none⟩) := by rw [hx.1] at hg; exact Option.some.inj hg
  have hgr : (getObj r).run P w = .ok (.mapIter (some b) clk seen clk) w := by simp [getObj, Sem.run, hr]
  have hgb : (getObj b).run P w = .ok (.map ents clk) w := by simp [getObj, Sem.run, hO.fro _ _ hb]
  have htest := next_test_false seen ents clk clk hlt (Nat.le_refl _)
  generalize hL : Array.filter (fun e => !seen.contains e.born) ents = L
  have hLm : ∀ e, e ∈ L.toList ↔ e ∈ left := by
    intro e
    rw [← hL]
    simp only [Array.toList_filter, List.mem_filter, Bool.not_eq_true']
    constructor
    · rintro ⟨h1, h2⟩
      exact (hleft e h1).2 (by simpa using h2)
    · intro h
      exact ⟨hsub h, by simpa using (hleft e (hsub h)).1 h⟩
  have hmem : ∀ x ∈ L.toList, x.born < clk := fun x hx => hlt x (hsub ((hLm x).1 hx))
  have e1 : L.filter (fun x => decide (x.born < clk)) = L := Array.filter_eq_self.2 (fun x hx => by simpa using hmem x (by simpa using hx))
  have e2 : L.filter (fun x => decide (x.born ≥ clk)) = #[] := by
    rw [Array.filter_eq_empty_iff]
    intro x hx
    have := hmem x (by simpa using hx)
    simp; omega
  have hlenk := concL_length hk
  simp only [List.length_map] at hlenk
  by_cases h0 : L.size = 0
  · have hLe : L = #[] := Array.eq_empty_of_size_eq_zero h0
    have hle : left = [] := by
      rw [List.eq_nil_iff_forall_not_mem]
      intro e he
      have := (hLm e).2 he
      rw [hLe] at this; simp at this
    refine exec_val (semAt_of ho (by simp)) (v := .tuple #[.bool false]) (w' := w) ?_ (.inl ⟨?_, ResP.same hO (conc_tup.2 ⟨[.bool false], rfl, _, _, rfl, rfl, rfl⟩)⟩)
    · simp only [execOp, ho, Instr.next, hv, Sem.run_bind, hgr, Result.andThen_ok, hgb, htest, Bool.false_eq_true, if_false, hL, e1, e2, Array.append_empty]
      subst hLe
      simp [choose, Sem.run, Question.forced]
    · rw [hle] at hlenk; exact List.length_eq_zero_iff.1 (by simpa using hlenk.symm)
  · have hne : L.isEmpty = false := by simp [Array.isEmpty, h0]
    have hch : ∃ (j : Nat) (w1 : World), j < L.size ∧ w1.heap = w.heap ∧ w1.os = w.os ∧ w1.tape = w.tape ∧ Fwd w w1 ∧ (choose (Question.mapNext L.size)).run P w = .ok j w1 := by
      by_cases hf : L.size ≤ 1
      · exact ⟨0, w, by omega, rfl, rfl, rfl, Fwd.refl w, by simp [choose, Sem.run, Question.forced, hf]⟩
      · exact ⟨_, w.drew, Nat.mod_lt _ (by omega), rfl, rfl, rfl, ⟨rfl, Nat.le_succ _⟩, by
          simp only [choose, Sem.run, Question.forced, decide_eq_true_eq, hf, if_false, Question.cut]
          rfl⟩
    obtain ⟨c, w1, hc, hw1, ho1, ht1, hp1, hrun⟩ := hch
    have hO1 := hO.world hw1 ho1 ht1 hp1
    have heL : L[c] ∈ L.toList := by simp
    obtain ⟨j, hj⟩ := List.mem_iff_getElem?.1 ((hLm _).1 heL)
    obtain ⟨k, y, hkj, hyj, hck, hcy⟩ := Ents.at (γ := []) (H := H) (ks := rk) (vs := rv) (es := left) ⟨hk, hvs⟩ hj
    have hr1 : w1.heap[r]? = some (.mapIter (some b) clk seen clk) := by rw [hw1]; exact hr
    have hset : (setObj r (.mapIter (some b) clk (seen.push (L[c]).born) clk)).run P w1 = .ok () { w1 with heap := w1.heap.setIfInBounds r (.mapIter (some b) clk (seen.push (L[c]).born) clk) } := by simp [setObj, Sem.run, hr1]
    refine exec_val (semAt_of ho (by simp)) (v := .tuple #[.bool true, (L[c]).key, (L[c]).val]) (w' := { w1 with heap := w1.heap.setIfInBounds r (.mapIter (some b) clk (seen.push (L[c]).born) clk) }) ?_
      (.inr ⟨j, k, y, hkj, hyj, γ, H, Ext.refl γ, HLe.refl H, hO1.upd (b := r) hi (by simp) hg rfl (fun k hk => heap_set_other hk) (by simp) rfl rfl rfl ?_, conc_tup.2 ⟨[.bool true, (L[c]).key, (L[c]).val], rfl, _, _, rfl, rfl, _, _, rfl, conc_open hck, _, _, rfl, conc_open hcy, rfl⟩⟩)
    · simp only [execOp, ho, Instr.next, hv, Sem.run_bind, hgr, Result.andThen_ok, hgb, htest, Bool.false_eq_true, if_false, hL, e1, e2, Array.append_empty, hne, Array.empty_append, Array.size_map, hrun,
        Array.getElem?_map, Array.getElem?_eq_getElem hc, Option.map_some, hset, Sem.run_pure]
    · have hjlt := (List.getElem?_eq_some_iff.1 hj).1
      refine ⟨r, b, ents, clk, seen.push (L[c]).born, left.eraseIdx j, hg, heap_set_same hr1, hb, ⟨hn, hlt⟩, fun e he => ?_, fun e he => hsub (List.mem_of_mem_eraseIdx he), (List.eraseIdx_sublist _ _).nodup hnd, ?_, ?_, ?_⟩
      · have hp := erase_perm hj
        have hnd' := (hp.nodup_iff.1 hnd)
        have hnotin := (List.nodup_cons.1 hnd').1
        constructor
        · intro h hm
          rcases Array.mem_push.1 hm with hm | hm
          · exact (hleft e he).1 (List.mem_of_mem_eraseIdx h) hm
          · have : e = L[c] := born_at hn he (hsub (List.mem_of_getElem? hj)) hm
            exact hnotin (this ▸ h)
        · intro h
          have h1 : e ∈ left := (hleft e he).2 (fun hm => h (Array.mem_push.2 (.inl hm)))
          rcases List.mem_cons.1 (hp.mem_iff.1 h1) with h2 | h2
          · exact absurd (Array.mem_push.2 (.inr (by rw [h2]))) h
          · exact h2
      · rw [map_eraseIdx]; exact concL_eraseIdx _ hk
      · rw [map_eraseIdx]; exact concL_eraseIdx _ hvs
      · intro c' hc'
        cases hc'
        exact ⟨L[c], hsub ((hLm _).1 heL), by simp, hck, hcy⟩
theorem getElem?_set_gone {i j : Nat} {e : OE} (h : (own.set i .gone)[j]? = some e) (hne : e ≠ .gone) : j ≠ i ∧ own[j]? = some e := by
  rw [List.getElem?_set] at h
  split at h
  · split at h
    · cases h; exact absurd rfl hne
    · cases h
  · rename_i hne; exact ⟨fun e => hne e.symm, h⟩
theorem OwnOK.mv (h : OwnOK B γ H own w) {i : Nat} {e e' : OE} {v v' : Value} {w' : World} (hi : own[i]? = some e) (hne : e ≠ .gone) (hv : γ[i]? = some v) (ho : w'.os = w.os) (ht : w'.tape = w.tape) (hp : Fwd w w') (hsz : w.heap.size ≤ w'.heap.size)
    (hw : ∀ k, k < w.heap.size → hblk v ≠ some k → w'.heap[k]? = w.heap[k]?) (hb' : ∀ b, hblk v' = some b → hblk v = some b ∨ w.heap.size ≤ b) (he : EntryOK (γ ++ [v']) H w' own.length e') :
    OwnOK B (γ ++ [v']) H (own.set i .gone ++ [e']) w' := by
  have hlt : i < own.length := (List.getElem?_eq_some_iff.1 hi).1
  have sp : ∀ (j : Nat) (ej : OE), (own.set i OE.gone ++ [e'])[j]? = some ej → ej ≠ OE.gone → (j < own.length ∧ j ≠ i ∧ own[j]? = some ej) ∨ (j = own.length ∧ ej = e') := by
    intro j ej hj hnj
    by_cases hl : j < own.length
    · rw [List.getElem?_append_left (by simpa using hl)] at hj
      obtain ⟨h1, h2⟩ := getElem?_set_gone hj hnj
      exact .inl ⟨hl, h1, h2⟩
    · have hj' := (List.getElem?_eq_some_iff.1 hj).1
      simp at hj'
      have : j = own.length := by omega
      subst this
      rw [List.getElem?_append_right (by simp)] at hj
      simp at hj; exact .inr ⟨rfl, hj.symm⟩
  have gold : ∀ (j : Nat) (u : Value), j < own.length → (γ ++ [v'])[j]? = some u → γ[j]? = some u := by
    intro j u hl hu
    rwa [List.getElem?_append_left (by rw [h.len]; exact hl)] at hu
  have gnew : ∀ (u : Value), (γ ++ [v'])[own.length]? = some u → u = v' := by
    intro u hu
    rw [List.getElem?_append_right (by rw [h.len]; exact Nat.le_refl _)] at hu
    simp [h.len] at hu; exact hu.symm
  have Hnew : ∀ b, hblk v' = some b → H b = none := by
    intro b hb
    rcases hb' b hb with h1 | h1
    · exact h.free i e v b hi hne hv h1
    · cases hh : H b with
      | none => rfl
      | some o' => have := (Array.getElem?_eq_some_iff.1 (h.fro _ _ hh)).1; omega
  refine ⟨ho.trans h.os, ht.trans h.tape, hp.trans h.output, Nat.le_trans h.size hsz, fun b hb hbv => ?_, h.hle, h.hdom, fun b o' hb => ?_, by simp [h.len], fun j ej hj => ?_, fun j ej u b hj hnj hu hb => ?_, fun j ej u b hj hnj hu hb => ?_, fun j1 j2 e1 e2 u1 u2 b hj12 h1 h2 n1 n2 g1 g2 b1 b2 => ?_⟩
  · have hn : hblk v ≠ some b := by
      intro hvb
      rcases h.newb i e v b hi hne hv hvb with h1 | ⟨u, hu, hub⟩
      · omega
      · exact hbv u hu hub
    rw [hw b (Nat.lt_of_lt_of_le hb h.size) hn]; exact h.keep b hb hbv
  · have hlt' := (Array.getElem?_eq_some_iff.1 (h.fro _ _ hb)).1
    rw [hw b hlt' (fun hvb => by have := h.free i e v b hi hne hv hvb; rw [this] at hb; cases hb)]
    exact h.fro _ _ hb
  · by_cases hg : ej = .gone
    · subst hg; trivial
    rcases sp j ej hj hg with ⟨hl, hji, hj'⟩ | ⟨rfl, rfl⟩
    · have hold := h.ent j ej hj'
      cases hvb : hblk v with
      | none =>
        exact entryOK_map (w := w) (b := w'.heap.size) (Ext.snoc γ v') (HLe.refl H) (fun k o' _ hk => by rw [hw k (Array.getElem?_eq_some_iff.1 hk).1 (by rw [hvb]; simp)]; exact hk)
          (fun hnej u hu hb => by have := entryOK_blk hold hnej hu hb; omega) hold
      | some bv =>
        exact entryOK_map (w := w) (b := bv) (Ext.snoc γ v') (HLe.refl H) (fun k o' hk hk' => by rw [hw k (Array.getElem?_eq_some_iff.1 hk').1 (by rw [hvb]; simpa using Ne.symm hk)]; exact hk')
          (fun hnej u hu hb => h.apart i j e ej v u bv (Ne.symm hji) hi hj' hne hnej hv hu hvb hb) hold
    · exact he
  · rcases sp j ej hj hnj with ⟨hl, hji, hj'⟩ | ⟨rfl, rfl⟩
    · exact h.free j ej u b hj' hnj (gold j u hl hu) hb
    · have := gnew u hu; subst this; exact Hnew b hb
  · rcases sp j ej hj hnj with ⟨hl, hji, hj'⟩ | ⟨rfl, rfl⟩
    · exact h.newb j ej u b hj' hnj (gold j u hl hu) hb
    · have := gnew u hu; subst this
      rcases hb' b hb with h1 | h1
      · exact h.newb i e v b hi hne hv h1
      · exact .inl (Nat.le_trans h.size h1)
  · rcases sp j1 e1 h1 n1 with ⟨l1, i1, o1⟩ | ⟨rfl, rfl⟩ <;> rcases sp j2 e2 h2 n2 with ⟨l2, i2, o2⟩ | ⟨rfl, rfl⟩
    · exact h.apart j1 j2 e1 e2 u1 u2 b hj12 o1 o2 n1 n2 (gold _ _ l1 g1) (gold _ _ l2 g2) b1 b2
    · have := gnew u2 g2; subst this
      have a1 := entryOK_blk (h.ent j1 e1 o1) n1 (gold _ _ l1 g1) b1
      rcases hb' b b2 with h3 | h3
      · exact h.apart i j1 e e1 v u1 b (Ne.symm i1) hi o1 hne n1 hv (gold _ _ l1 g1) h3 b1
      · omega
    · have := gnew u1 g1; subst this
      have a1 := entryOK_blk (h.ent j2 e2 o2) n2 (gold _ _ l2 g2) b2
      rcases hb' b b1 with h3 | h3
      · exact h.apart i j2 e e2 v u2 b (Ne.symm i2) hi o2 hne n2 hv (gold _ _ l2 g2) h3 b2
      · omega
    · exact hj12 rfl
def AppOK (k : Nat) (xs l : List AV) : Prop := xs.length + l.length ≤ 65536 ∧ ∀ e ∈ l, e.cells.length = k ∧ e.cells.all AV.one = true
theorem app_src {k : Nat} {l : List AV} {vs : List Value} (h : ∀ e ∈ l, e.cells.length = k ∧ e.cells.all AV.one = true) (hl : ConcL γ H l vs) : (∀ x ∈ vs, x.cells.size = k) ∧ ∀ x ∈ flat vs, One x := by
  have key : ∀ v ∈ vs, v.cells.size = k ∧ ∀ x ∈ v.cells.toList, One x := by
    intro v hv
    obtain ⟨j, hj⟩ := List.mem_iff_getElem?.1 hv
    obtain ⟨x, hx, hc⟩ := concL_get' hl hj
    obtain ⟨h1, h2⟩ := h x (List.mem_of_getElem? hx)
    have hc2 := conc_cells hc (by rintro l rfl; simp [AV.cells, AV.one] at h2)
    exact ⟨by rw [← Array.length_toList, concL_length hc2, h1], concL_one hc2 h2⟩
  refine ⟨fun x hx => (key x hx).1, fun x hx => ?_⟩
  obtain ⟨v, hv, hxv⟩ := List.mem_flatMap.1 hx
  exact (key v hv).2 x hxv
theorem flat_append (us vs : List Value) : flat (us ++ vs) = flat us ++ flat vs := by simp [flat]
theorem ex_append {s x : Operand} {t T : TypeId} {inf : TypeInfo} {z : Value} {i k : Nat} {xs l : List AV} (ho : o.op = .call { callee := .builtin .append, args := #[s, x], argTypes := #[t, t] }) (hO : OwnOK B γ H own w)
    (hs : Conc γ H (.osl i) (a.eval s)) (hi : own[i]? = some (.row T k xs)) (hx : Conc γ H (.sl l) (a.eval x)) (ht : P.underlying t = some (.slice T)) (hinf : P.info? T = some inf) (hz : inf.zero = some z) (hzs : z.cells.size = inf.size)
    (hk : inf.size = k) (hk1 : 0 < k) (hby : inf.bytes ≤ 1048576) (hA : AppOK k xs l) : Exec P ro o a w (ResP B γ H (own.set i .gone ++ [.row T k (xs ++ l)]) (.osl own.length)) := by
  simp only [Conc] at hs hx
  obtain ⟨A, c, kx, us, hxv, hlc, hlu, _, hpx⟩ := hx
  obtain ⟨hks, h1⟩ := app_src hA.2 hlu
  have hull := concL_length hlu
  have hflu := flat_length hks
  -- the row, as the kit has it
  have hrow : ∃ vs : List Value, γ[i]? = some (a.eval s) ∧ ConcL [] H xs vs ∧ (∀ x ∈ vs, x.cells.size = k) ∧ (∀ x ∈ flat vs, One x) ∧ w.ownsRow 0 T k (a.eval s) xs.length (flat vs) := by
    rcases hO.ent i _ hi with ⟨hxs, hg⟩ | ⟨b, cap, cs, vs, hg, hcap, hcm, hb, hsz, hc, hkk, hone, hseg⟩
    · rw [hs.1] at hg; have := Option.some.inj hg; subst hxs
      exact ⟨[], hs.1, rfl, by simp, by simp [flat], by rw [this]; exact World.ownsRow_nil w 0 T k⟩
    · rw [hs.1] at hg; have := Option.some.inj hg
      refine ⟨vs, hs.1, hc, hkk, hone, by rw [flat_length hkk, concL_length hc], .inr ⟨b, cap, cs, this, Nat.zero_le _, hb, hcap, by simp only [maxLen]; omega, hsz, ?_⟩⟩
      have hfl := flat_length hkk
      have hll := concL_length hc
      apply List.ext_getElem?
      intro j
      rw [List.getElem?_take]
      split
      · have := hseg j (by rw [hfl, hll]; assumption)
        rw [← this]; simp
      · rw [List.getElem?_eq_none]; rw [hfl, hll]; omega
  obtain ⟨vs, hg, hc, hkk, hone, hown⟩ := hrow
  have fin : ∀ v' w', (Builtin.append_ #[t, t] o.type #[a.eval s, a.eval x]).run P w = .ok v' w' → w'.ownsRow 0 T k v' (xs.length + l.length) (flat vs ++ flat us) → w.grownBy w' (a.eval s).ownBlock → w.drawn ≤ w'.drawn → (∀ b, hblk v' = some b → hblk (a.eval s) = some b ∨ w.heap.size ≤ b) →
      Exec P ro o a w (ResP B γ H (own.set i .gone ++ [.row T k (xs ++ l)]) (.osl own.length)) := by
    intro v' w' hrun hown' hgr hdr hblk'
    have hsl : ∃ A n c, a.eval s = .slice A n c := by
      rcases hown.2 with ⟨e, _⟩ | ⟨g, cap, cur, e, _⟩
      · exact ⟨_, _, _, e⟩
      · exact ⟨_, _, _, e⟩
    obtain ⟨A0, n0, c0, hsv⟩ := hsl
    have hob : (a.eval s).ownBlock = hblk (a.eval s) := by rw [hsv]; cases A0 <;> rfl
    have hcl : ConcL [] H (xs ++ l) (vs ++ us) := concL_append hc hlu
    have hkk' : ∀ x ∈ vs ++ us, x.cells.size = k := fun x hx => by
      rcases List.mem_append.1 hx with h | h
      · exact hkk x h
      · exact hks x h
    have hsl' : ∃ A n c, v' = .slice A n c := by
      rcases hown'.2 with ⟨e, _⟩ | ⟨g, cap, cur, e, _⟩
      · exact ⟨_, _, _, e⟩
      · exact ⟨_, _, _, e⟩
    refine exec_val (semAt_of ho (by simp)) (v := v') (w' := w') ?_ ⟨γ ++ [v'], H, Ext.snoc γ _, HLe.refl H, hO.mv hi (by simp) hg hgr.os hgr.tape ⟨hgr.output, hdr⟩ hgr.size (fun k hk hkb => hgr.block k hk (by rw [hob]; exact Ne.symm hkb)) hblk' ?_, ?_⟩
    · simp only [execOp, ho, resolve, invoke, builtin, Sem.run_bind, Sem.run_pure, Result.andThen_ok, List.map_toArray, List.map_cons, List.map_nil, hrun]
    · have hidx : (γ ++ [v'])[own.length]? = some v' := by rw [← hO.len]; simp
      rcases hown'.2 with ⟨e, hn⟩ | ⟨g, cap, cur, e, _, hgb, hn, hcm, hcs, htk⟩
      · have hx0 : xs.length = 0 ∧ l.length = 0 := by omega
        exact .inl ⟨by rw [List.length_eq_zero_iff.1 hx0.1, List.length_eq_zero_iff.1 hx0.2]; rfl, by rw [hidx, e]⟩
      · refine .inr ⟨g, cap, cur, vs ++ us, by rw [hidx, e]; simp, by simpa using hn, by simpa [maxLen] using hcm, hgb, hcs, hcl, hkk', ?_, ?_⟩
        · intro x hx
          rw [flat_append] at hx
          rcases List.mem_append.1 hx with h | h
          · exact hone x h
          · exact h1 x h
        · intro j hj
          rw [flat_append] at hj ⊢
          have hj2 : j < (xs.length + l.length) * k := by rw [← hown'.1]; exact hj
          have := congrArg (·[j]?) htk
          simp only [List.getElem?_take, if_pos hj2] at this
          rw [← this]; simp
    · simp only [Conc]
      exact ⟨by rw [← hO.len]; simp, hsl'⟩
  have hxl : (xs.length + l.length) ≤ 65536 := hA.1
  rw [← hull] at hxl
  cases A with
  | none =>
    have hl0 : l = [] := by
      by_cases h : l = []
      · exact h
      · obtain ⟨b, off, cs, T', fz, e, _⟩ := hpx h; cases e
    subst hl0
    have hu0 : us = [] := by cases us with
      | nil => rfl
      | cons _ _ => simp at hull
    subst hu0
    refine fin (a.eval s) w ?_ (by simpa [flat] using hown) ⟨rfl, rfl, rfl, Nat.le_refl _, fun _ _ _ => rfl⟩ (Nat.le_refl _) (fun b hb => .inl hb)
    have hu : (underlying t).run P w = .ok (.slice T) w := by simp [underlying, ht]
    rcases hown.2 with ⟨e, hn⟩ | ⟨g, cap, cur, e, _, hgb, hn, hcm, hcs, htk⟩
    · simp [Builtin.append_, hu, sizeOf, typeInfo, hinf, e, hxv, Builtin.lenOf, Builtin.firstCells]
    · simp [Builtin.append_, hu, sizeOf, typeInfo, hinf, e, hxv, Builtin.lenOf, Builtin.firstCells, hn, storeCells]
  | some ad =>
    have hnews : ∀ j u, (flat us)[j]? = some u → w.cell? (ad.add j) = some u := by
      intro j u hj
      have hne : l ≠ [] := by
        rintro rfl
        have : us = [] := by cases us with
          | nil => rfl
          | cons _ _ => simp at hull
        subst this; simp [flat] at hj
      obtain ⟨b, off, cs, T', fz, e, hb, hsg⟩ := hpx hne
      cases e
      exact seg_cell (hO.fro _ _ hb) hsg j u hj
    have hbytes : (xs.length + us.length) * inf.bytes ≤ 140737488355328 := by
      have h1 : (xs.length + us.length) * inf.bytes ≤ 65536 * 1048576 := Nat.mul_le_mul hxl hby
      omega
    subst hk
    have hm63 : xs.length + us.length ≤ maxLen := by simp only [maxLen]; omega
    have hlv : (flat vs).length = xs.length * inf.size := hown.1
    have grown : ∀ old, (w.drew.alloc (.cells ((flat vs).toArray ++ (flat us).toArray ++ Builtin.zeroCells z.cells (grownCap w (xs.length + us.length) old T - (xs.length + us.length))) T)).ownsRow 0 T inf.size
        (.slice (some ⟨w.heap.size, 0, none⟩) (xs.length + us.length) (grownCap w (xs.length + us.length) old T)) (xs.length + us.length) (flat vs ++ flat us) := by
      intro old
      have hge := grownCap_ge w (xs.length + us.length) old T
      refine ⟨by rw [List.length_append, hlv, hflu, ← Nat.add_mul], .inr ⟨w.heap.size, _, _, rfl, Nat.zero_le _, heap_alloc_new w.drew _, hge, grownCap_le_maxLen w _ old T hm63, ?_, ?_⟩⟩
      · simp only [Array.size_append, List.size_toArray, size_zeroCells, hzs, hlv, hflu, ← Nat.add_mul]
        congr 1; omega
      · simp only [Array.toList_append, List.append_assoc]
        rw [← List.append_assoc]
        exact List.take_left' (by rw [List.length_append, hlv, hflu, ← Nat.add_mul])
    have hgr : ∀ (ob : Obj) (row : Option Nat), w.grownBy (w.drew.alloc ob) row := fun ob row => ⟨rfl, rfl, rfl, by simp, fun k hk _ => heap_alloc_old w.drew _ hk⟩
    rcases hown.2 with ⟨e, hn⟩ | ⟨g, cap, cur, e, _, hgb, hn, hcm, hcs, htk⟩
    · have hv0 : flat vs = [] := List.length_eq_zero_iff.1 (by rw [hlv, hn]; simp)
      by_cases hu0 : us.length = 0
      · have hus : us = [] := List.length_eq_zero_iff.1 hu0
        have hl0 : l = [] := by cases l with
          | nil => rfl
          | cons _ _ => rw [hus] at hull; simp at hull
        have hu : (underlying t).run P w = .ok (.slice T) w := by simp [underlying, ht]
        refine fin (a.eval s) w ?_ (by subst hus hl0; simpa [flat] using hown) ⟨rfl, rfl, rfl, Nat.le_refl _, fun _ _ _ => rfl⟩ (Nat.le_refl _) (fun b hb => .inl hb)
        subst hl0
        simp [Builtin.append_, hu, sizeOf, typeInfo, hinf, e, hxv, Builtin.lenOf, Builtin.firstCells, loadCells, loadCellsFrom]
      · have hr := run_append_nil (P := P) w t o.type T inf z ht hinf hz ad us.length c (flat us) (by rw [hflu]) hnews (by omega) (by omega) (by rw [hn] at hbytes; simp only [Nat.zero_add] at hbytes; omega)
        have hg0 := grown 0
        rw [hn, hv0] at hg0
        simp only [Nat.zero_add, List.nil_append, Array.empty_append] at hg0
        refine fin _ _ (by rw [hxv, e, ← hull]; exact hr) ?_ (hgr _ _) (Nat.le_succ _) (fun b hb => .inr (by simp [hblk] at hb; omega))
        rw [hn, hv0, ← hull]
        simpa using hg0
    · by_cases hroom : xs.length + us.length ≤ cap
      · have hfit : xs.length * inf.size + (flat us).length ≤ cur.size := by rw [hflu, hcs, ← Nat.add_mul]; exact Nat.mul_le_mul_right _ hroom
        have hr := run_append_room (P := P) w t o.type T inf ht hinf g xs.length cap cur hgb ad us.length c (flat us) (by rw [hflu]) hnews (fun u hu => one_cell' (h1 u hu)) hroom hfit
        refine fin (.slice (some ⟨g, 0, none⟩) (xs.length + us.length) cap) (w.setRow g (cur.toList.take (xs.length * inf.size) ++ flat us ++ cur.toList.drop (xs.length * inf.size + (flat us).length)).toArray) (by rw [hxv, e, ← hull]; exact hr) ?_ ⟨rfl, rfl, rfl, by simp, fun k _ hk => setRow_other w g k _ (fun e' => hk (by rw [e]; simp [Value.ownBlock, e']))⟩ (Nat.le_refl _) (fun b hb => .inl (by rw [e]; exact hb))
        rw [← hull]
        refine ⟨by rw [List.length_append, hlv, hflu, ← Nat.add_mul], .inr ⟨g, cap, _, rfl, Nat.zero_le _, setRow_heap w g cur _ T _ hgb, hroom, hcm, ?_, ?_⟩⟩
        · simp only [List.size_toArray, List.length_append, List.length_take, List.length_drop, Array.length_toList]
          omega
        · rw [htk]
          exact List.take_left' (by rw [List.length_append, hlv, hflu, ← Nat.add_mul])
      · have holds : ∀ j u, (flat vs)[j]? = some u → w.cell? ((⟨g, 0, none⟩ : Addr).add j) = some u := hown.cells (g := g) (by rw [e]; rfl)
        have hr := run_append_grow (P := P) w t o.type T inf z ht hinf hz ⟨g, 0, none⟩ xs.length cap (flat vs) hlv holds ad us.length c (flat us) (by rw [hflu]) hnews (by omega) (by omega) (growslice_fits (by omega) hbytes)
        refine fin _ _ (by rw [hxv, e, ← hull]; exact hr) (by rw [← hull]; exact grown cap) (hgr _ _) (Nat.le_succ _) (fun b hb => .inr (by simp [hblk] at hb; omega))
end Go.Fw

namespace Go.Fw
variable {P : Program} {B : Base} {γ : List Value} {H : HP} {own : List OE} {w : World} {a : Act} {ro : Option Nat} {o : Oper}

def intsOf : List IntKind → List AV → Option (List Int)
  | [], [] => some []
  | k :: ks, .int k' n :: l => if k = k' then (intsOf ks l).map (n :: ·) else none
  | _, _ => none
theorem intsOf_spec : ∀ {ks : List IntKind} {l : List AV} {ns : List Int}, intsOf ks l = some ns → l = intsA ks ns ∧ ns.length = ks.length
  | [], [], ns, h => by simp only [intsOf, Option.some.injEq] at h; subst h; exact ⟨rfl, rfl⟩
  | k :: ks, .int k' n :: l, ns, h => by
    unfold intsOf at h
    split at h
    · rename_i e; subst e
      cases hr : intsOf ks l with
      | none => rw [hr] at h; cases h
      | some ns' =>
        rw [hr] at h; simp only [Option.map_some, Option.some.injEq] at h; subst h
        obtain ⟨h1, h2⟩ := intsOf_spec hr
        exact ⟨by rw [h1]; simp [intsA], by simp [h2]⟩
    · cases h
  | [], _ :: _, ns, h => by simp [intsOf] at h
  | _ :: _, [], ns, h => by simp [intsOf] at h
  | _ :: _, .bool _ :: _, ns, h => by simp [intsOf] at h
  | _ :: _, .str _ :: _, ns, h => by simp [intsOf] at h
  | _ :: _, .agg _ :: _, ns, h => by simp [intsOf] at h
  | _ :: _, .tup _ :: _, ns, h => by simp [intsOf] at h
  | _ :: _, .sl _ :: _, ns, h => by simp [intsOf] at h
  | _ :: _, .nsl :: _, ns, h => by simp [intsOf] at h
  | _ :: _, .osl _ :: _, ns, h => by simp [intsOf] at h
  | _ :: _, .box _ _ :: _, ns, h => by simp [intsOf] at h
  | _ :: _, .elp _ _ :: _, ns, h => by simp [intsOf] at h
  | _ :: _, .fp _ _ :: _, ns, h => by simp [intsOf] at h
  | _ :: _, .mp _ :: _, ns, h => by simp [intsOf] at h
  | _ :: _, .fm _ _ :: _, ns, h => by simp [intsOf] at h
  | _ :: _, .nmp :: _, ns, h => by simp [intsOf] at h
  | _ :: _, .itr _ :: _, ns, h => by simp [intsOf] at h
  | _ :: _, .fn _ _ _ :: _, ns, h => by simp [intsOf] at h
  | _ :: _, .nilfn :: _, ns, h => by simp [intsOf] at h
  | _ :: _, .iface _ _ :: _, ns, h => by simp [intsOf] at h
  | _ :: _, .nilif :: _, ns, h => by simp [intsOf] at h
  | _ :: _, .nilp :: _, ns, h => by simp [intsOf] at h
  | _ :: _, .junk :: _, ns, h => by simp [intsOf] at h
def eqStruct (P : Program) (op : BinOp) (t : TypeId) (l l' : List AV) : Option Bool := match flatTy P t with
  | some ks => match intsOf ks l, intsOf ks l' with
    | some ms, some ns => bif P.eqGuardType P.depth t then none else match op with
      | .eql => some (decide (ms = ns))
      | .neq => some (!decide (ms = ns))
      | _ => none
    | _, _ => none
  | none => none
theorem ex_eqStruct {op : BinOp} {t t' : TypeId} {x y : Operand} {l l' : List AV} {c : Bool} (ho : o.op = .binOp op t x y t') (hO : OwnOK B γ H own w) (hx : Conc γ H (.agg l) (a.eval x)) (hy : Conc γ H (.agg l') (a.eval y)) (h : eqStruct P op t l l' = some c) :
    Exec P ro o a w (ResP B γ H own (.bool c)) := by
  unfold eqStruct at h
  split at h
  case h_2 => cases h
  rename_i ks hks
  split at h
  case h_2 => cases h
  rename_i ms ns hm hn
  cases hg : P.eqGuardType P.depth t
  case true => rw [hg] at h; cases h
  rw [hg] at h; simp only [cond_false] at h
  obtain ⟨e1, l1⟩ := intsOf_spec hm
  obtain ⟨e2, l2⟩ := intsOf_spec hn
  obtain ⟨us, hu, hcu⟩ := conc_agg.1 hx
  obtain ⟨vs, hv, hcv⟩ := conc_agg.1 hy
  rw [e1, concL_ints] at hcu
  rw [e2, concL_ints] at hcv
  subst hcu hcv
  have hr := run_equal_flat (P := P) (w := w) hks l1 l2
  unfold Op.equal Op.maxDepth at hr
  split at h
  · cases h
    refine exec_val (semAt_of ho (by simp)) (v := .bool (decide (ms = ns))) (w' := w) ?_ (ResP.same hO (conc_bool.2 rfl))
    simp only [execOp, ho, hu, hv, Sem.run_bind, run_eqGuard_agg w .eql t x y _ _ hg, Result.andThen_ok, run_eql_struct, hr, Result.andThen, Sem.run_pure]
  · cases h
    refine exec_val (semAt_of ho (by simp)) (v := .bool (!decide (ms = ns))) (w' := w) ?_ (ResP.same hO (conc_bool.2 rfl))
    simp only [execOp, ho, hu, hv, Sem.run_bind, run_eqGuard_agg w .neq t x y _ _ hg, Result.andThen_ok, run_neq_struct, hr, Result.andThen, Sem.run_pure]
  · cases h
def eqB : BinOp → Bool → Bool → Option Bool
  | .eql, p, q => some (p == q)
  | .neq, p, q => some (p != q)
  | _, _, _ => none
theorem ex_eqBool {op : BinOp} {t t' : TypeId} {x y : Operand} {p q c : Bool} (ho : o.op = .binOp op t x y t') (hO : OwnOK B γ H own w) (hx : Conc γ H (.bool p) (a.eval x)) (hy : Conc γ H (.bool q) (a.eval y)) (hu : P.underlying t = some .bool)
    (h : eqB op p q = some c) : Exec P ro o a w (ResP B γ H own (.bool c)) := by
  have e1 := conc_bool.1 hx
  have e2 := conc_bool.1 hy
  have hr := run_equalIn_bool' (P := P) w 9999 t p q hu
  cases op <;> simp only [eqB, Option.some.injEq, reduceCtorEq] at h <;> subst h
  · refine exec_val (semAt_of ho (by simp)) (v := .bool (p == q)) (w' := w) ?_ (ResP.same hO (conc_bool.2 rfl))
    simp only [execOp, ho, e1, e2, eqGuard_at_bool, Sem.run_bind, Sem.run_pure, Result.andThen_ok, binOp]
    simp [Op.equal, Op.maxDepth, hr]
  · refine exec_val (semAt_of ho (by simp)) (v := .bool (p != q)) (w' := w) ?_ (ResP.same hO (conc_bool.2 rfl))
    simp only [execOp, ho, e1, e2, eqGuard_at_bool, Sem.run_bind, Sem.run_pure, Result.andThen_ok, binOp]
    simp [Op.equal, Op.maxDepth, hr]
    cases p <;> cases q <;> rfl
theorem ex_indexO {t elem : TypeId} {x ix : Operand} {i k : Nat} {T : TypeId} {xs : List AV} {kk : IntKind} {n : Int} {inf : TypeInfo} (ho : o.op = .indexAddr t x ix) (hO : OwnOK B γ H own w) (hx : Conc γ H (.osl i) (a.eval x))
    (hi : own[i]? = some (.row T k xs)) (hn : Conc γ H (.int kk n) (a.eval ix)) (ht : P.underlying t = some (.slice elem)) (hinf : P.info? elem = some inf) (hk : inf.size = k) (h0 : 0 ≤ n) (hlt : n.toNat < xs.length) :
    Exec P ro o a w (ResP B γ H own (.elp i (n.toNat * k))) := by
  simp only [Conc] at hx
  have e1 := conc_int.1 hn
  rcases hO.ent i _ hi with ⟨hxs, hg⟩ | ⟨b, cap, cs, vs, hg, hcap, hcm, hb, hsz, hc, hkk, hone, hseg⟩
  · subst hxs; simp at hlt
  · rw [hx.1] at hg; have hv := Option.some.inj hg
    refine exec_val (semAt_of ho (by simp)) (v := .pointer (some ⟨b, n.toNat * k, none⟩)) (w' := w) ?_ (ResP.same hO ?_)
    · have h1 : (underlying t).run P w = .ok (.slice elem) w := by simp [underlying, ht]
      have h2 : (sizeOf elem).run P w = .ok k w := by simp [sizeOf, typeInfo, hinf, hk]
      have hlt' : n < (xs.length : Int) := by omega
      simp only [execOp, ho, hv, e1, Instr.indexAt, Sem.run_bind, asIntOf, Sem.run_pure, Result.andThen_ok, h1, Bool.and_false]
      rw [if_pos ⟨h0, hlt'⟩]
      simp [h2, addr_add]
    · simp only [Conc]; exact ⟨b, _, _, by rw [hx.1, hv], rfl⟩
theorem ex_load_elp {T T0 : TypeId} {x : Operand} {i k off j f : Nat} {xs : List AV} {e r : AV} (ho : o.op = .load T x) (hO : OwnOK B γ H own w) (hp : Conc γ H (.elp i off) (a.eval x)) (hi : own[i]? = some (.row T0 k xs))
    (hoff : off = j * k + f) (he : xs[j]? = some e) (hnt : ∀ l, e ≠ .tup l) (h : loadAV P T e.cells f = some r) : Exec P ro o a w (ResP B γ H own r) := by
  simp only [Conc] at hp
  obtain ⟨b0, n0, c0, hg0, hv⟩ := hp
  rcases hO.ent i _ hi with ⟨hxs, hg⟩ | ⟨b, cap, cs, vs, hg, hcap, hcm, hb, hsz, hc, hkk, hone, hseg⟩
  · subst hxs; simp at he
  · rw [hg0] at hg; cases hg
    obtain ⟨u, hu, hcu⟩ := concL_get hc he
    have hs := seg_elem hseg hkk hu
    obtain ⟨v, hr, hcv⟩ := run_loadAV (w := w) h hb (conc_cells hcu hnt) hs
    refine exec_val (semAt_of ho (by simp)) (v := v) (w' := w) ?_ (ResP.same hO (conc_open hcv))
    rw [Nat.zero_add] at hr
    simp [execOp, ho, Instr.loadAt, hv, Instr.sureAddr, hoff, hr]
theorem flat_get {vs : List Value} {k : Nat} (hk : 0 < k) (h : ∀ x ∈ vs, x.cells.size = k) (m : Nat) : (flat vs)[m]? = (vs[m / k]?).bind fun v => v.cells.toList[m % k]? := by
  induction vs generalizing m with
  | nil => simp [flat]
  | cons v vs ih =>
    have h1 := h v (by simp)
    simp only [flat, List.flatMap_cons]
    by_cases hm : m < k
    · rw [List.getElem?_append_left (by simpa [h1] using hm), Nat.div_eq_of_lt hm, Nat.mod_eq_of_lt hm]; simp
    · rw [List.getElem?_append_right (by simpa [h1] using hm)]
      have := ih (fun x hx => h x (by simp [hx])) (m - k)
      simp only [flat] at this
      simp only [Array.length_toList, h1]
      rw [this]
      have hd : m / k = (m - k) / k + 1 := Nat.div_eq_sub_div hk (by omega)
      have hmod : m % k = (m - k) % k := by rw [Nat.mod_eq_sub_mod (by omega)]
      rw [hd, hmod]; simp
def AV.notTup' : AV → Bool
  | .tup _ => false
  | _ => true
def AV.shapeOK (e : AV) (l : List AV) : Bool := match e, l with
  | .agg _, _ => true
  | _, [x] => x.one
  | _, _ => false
def newElem (e : AV) (cells' : List AV) : AV := match e, cells' with
  | .agg _, l => .agg l
  | _, [x] => x
  | _, l => .agg l
theorem ex_store_elp {T T0 : TypeId} {x y : Operand} {i k off j f : Nat} {xs : List AV} {e z : AV} {cells' : List AV} (ho : o.op = .store T x y) (hO : OwnOK B γ H own w) (hp : Conc γ H (.elp i off) (a.eval x)) (hz : Conc [] H z (a.eval y))
    (hi : own[i]? = some (.row T0 k xs)) (hoff : off = j * k + f) (he : xs[j]? = some e) (hnt : e.notTup' = true) (hek : e.cells.length = k) (hk : 0 < k) (h : storeAV P T e.cells f z = some cells') (hne : e.shapeOK cells' = true) :
    Exec P ro o a w (ResP B γ H (own.set i (.row T0 k (xs.set j (newElem e cells')))) (.tup [])) := by
  simp only [Conc] at hp
  obtain ⟨b0, n0, c0, hg0, hv⟩ := hp
  have hjlt := (List.getElem?_eq_some_iff.1 he).1
  rcases hO.ent i _ hi with ⟨hxs, hg⟩ | ⟨b, cap, cs, vs, hg, hcap, hcm, hb, hsz, hc, hkk, hone, hseg⟩
  · subst hxs; simp at he
  rw [hg0] at hg; cases hg
  obtain ⟨u, hu, hcu⟩ := concL_get hc he
  have hnt' : ∀ l, e ≠ .tup l := by rintro l rfl; simp [AV.notTup'] at hnt
  have hcc := conc_cells hcu hnt'
  have huk := hkk u (List.mem_of_getElem? hu)
  unfold storeAV at h
  split at h
  case h_2 => cases h
  rename_i inf hinf
  cases hcnd : (inf.size == z.cells.length) && Nat.ble (f + inf.size) e.cells.length && z.cells.all AV.one
  · rw [hcnd] at h; cases h
  rw [hcnd] at h; simp only [cond_true, Option.some.injEq] at h; subst h
  simp only [Bool.and_eq_true, beq_iff_eq] at hcnd
  obtain ⟨⟨hs, hle⟩, hall⟩ := hcnd
  have hle' := Nat.le_of_ble_eq_true hle
  rw [hek] at hle'
  have hzt : ∀ l, z ≠ .tup l := by rintro l rfl; simp [AV.cells, AV.one] at hall
  have hcz := conc_cells hz hzt
  have hlz := concL_length hcz
  have h1 := concL_one hcz hall
  have hn : (a.eval y).cells.size = inf.size := by rw [← Array.length_toList, hlz, ← hs]
  have hll := concL_length hc
  have hfl := flat_length hkk
  have hjk : j * k + k ≤ xs.length * k := by
    have := Nat.mul_le_mul_right k hjlt
    rw [Nat.succ_mul] at this; exact this
  have hcapk : xs.length * k ≤ c0 * k := Nat.mul_le_mul_right _ hcap
  have hrun := run_storeVar (P := P) (w := w) (T := T) (off := off) (v := a.eval y) hinf hn hb (by rw [hsz, hoff]; omega) h1
  obtain ⟨e1, e2, e3⟩ := setRow_at (new := (cs.toList.take off ++ (a.eval y).cells.toList ++ cs.toList.drop (off + inf.size)).toArray) hb
  -- the element's new value
  let nc : List Value := u.cells.toList.take f ++ (a.eval y).cells.toList ++ u.cells.toList.drop (f + inf.size)
  have hncl : nc.length = k := by
    simp only [nc, List.length_append, List.length_take, List.length_drop, Array.length_toList, huk, hn]; omega
  have hnc : ConcL [] H (e.cells.take f ++ z.cells ++ e.cells.drop (f + inf.size)) nc := concL_all_splice hcc hcz
  obtain ⟨u', hu', hcu'⟩ : ∃ u' : Value, u'.cells.toList = nc ∧ Conc [] H (newElem e (e.cells.take f ++ z.cells ++ e.cells.drop (f + inf.size))) u' := by
    generalize (e.cells.take f ++ z.cells ++ e.cells.drop (f + inf.size)) = l' at hnc hne
    unfold AV.shapeOK at hne
    unfold newElem
    split at hne
    · exact ⟨.agg ⟨nc⟩, rfl, conc_agg.2 ⟨nc, rfl, hnc⟩⟩
    · rename_i x' hnagg
      obtain ⟨v', vs', hv', hcv', hr⟩ := hnc
      have hr' : vs' = [] := hr
      subst hr'
      have hone' := one_of_conc hcv' hne
      refine ⟨v', ?_, ?_⟩
      · rw [hv']
        cases v' <;> first | rfl | exact absurd rfl (hone'.1 _)
      · exact hcv'
    · cases hne
  have hnew1 : ∀ x ∈ nc, One x := by
    intro x hx
    simp only [nc, List.mem_append] at hx
    have hold : ∀ x ∈ u.cells.toList, One x := fun x hx => hone x (List.mem_flatMap.2 ⟨u, List.mem_of_getElem? hu, hx⟩)
    rcases hx with (hx | hx) | hx
    · exact hold x (List.mem_of_mem_take hx)
    · exact h1 x hx
    · exact hold x (List.mem_of_mem_drop hx)
  have hkk' : ∀ x ∈ vs.set j u', x.cells.size = k := fun x hx => by
    rcases List.mem_or_eq_of_mem_set hx with h | rfl
    · exact hkk x h
    · rw [← Array.length_toList, hu', hncl]
  have hjv : j < vs.length := by rw [hll]; exact hjlt
  refine exec_unit (semAt_of ho (by simp)) (w' := _) ?_ ⟨γ, H, Ext.refl γ, HLe.refl H, hO.upd hi (by simp) hg0 rfl e2 e3 rfl rfl rfl (.inr ⟨b0, c0, _, vs.set j u', by simpa using hg0, by simpa using hcap, hcm, e1, ?_, concL_set hc hcu', hkk', ?_, ?_⟩), conc_tup.2 ⟨[], rfl, rfl⟩⟩
  · simp only [execOp, ho, Instr.storeAt, hv, Instr.sureAddr, Sem.run_bind, Sem.run_pure, Result.andThen_ok, hrun]
  · simp only [List.size_toArray, List.length_append, List.length_take, List.length_drop, Array.length_toList, hn, hsz, hoff]; omega
  · intro x hx
    obtain ⟨v, hv', hxv⟩ := List.mem_flatMap.1 hx
    rcases List.mem_or_eq_of_mem_set hv' with h | rfl
    · exact hone x (List.mem_flatMap.2 ⟨v, h, hxv⟩)
    · rw [hu'] at hxv; exact hnew1 x hxv
  · intro m hm
    rw [flat_length hkk', List.length_set, hll] at hm
    rw [Nat.zero_add, flat_get hk hkk']
    have hdlt : m / k < vs.length := by rw [hll]; exact Nat.div_lt_of_lt_mul (by rw [Nat.mul_comm]; exact hm)
    have hml := Nat.mod_lt m hk
    have hmd := Nat.div_add_mod m k
    have hold := hseg m (by rw [hfl, hll]; exact hm)
    rw [Nat.zero_add, flat_get hk hkk] at hold
    simp only [List.getElem?_toArray]
    by_cases hmj : m / k = j
    · rw [hmj, List.getElem?_set_self hjv]
      simp only [Option.bind_some, hu']
      rw [hmj, hu] at hold
      simp only [Option.bind_some] at hold
      have hm' : m = j * k + m % k := by rw [← hmj]; rw [Nat.mul_comm]; omega
      generalize hq : m % k = q at hold hm' hml ⊢
      simp only [nc, hoff]
      by_cases hq1 : q < f
      · rw [List.append_assoc, List.getElem?_append_left (by simp only [List.length_take, Array.length_toList]; omega), List.getElem?_take, if_pos (by omega), List.append_assoc, List.getElem?_append_left (by simp only [List.length_take, Array.length_toList, huk]; omega), List.getElem?_take, if_pos hq1]
        rw [Array.getElem?_toList, hold]
      · by_cases hq2 : q < f + inf.size
        · rw [List.append_assoc, List.getElem?_append_right (by simp only [List.length_take, Array.length_toList]; omega), List.getElem?_append_left (by simp only [List.length_take, Array.length_toList, hn, hsz]; omega),
            List.append_assoc, List.getElem?_append_right (by simp only [List.length_take, Array.length_toList]; omega), List.getElem?_append_left (by simp only [List.length_take, Array.length_toList, hn, huk]; omega)]
          simp only [List.length_take, Array.length_toList, hsz, huk]
          congr 1
          omega
        · rw [List.getElem?_append_right (by simp only [List.length_append, List.length_take, Array.length_toList, hn]; omega), List.getElem?_append_right (by simp only [List.length_append, List.length_take, Array.length_toList, hn]; omega)]
          simp only [List.length_append, List.length_take, Array.length_toList, hn, hsz, huk, List.getElem?_drop]
          rw [show f + inf.size + (q - (min f k + inf.size)) = q from by omega, show j * k + f + inf.size + (m - (min (j * k + f) (c0 * k) + inf.size)) = m from by omega, Array.getElem?_toList, hold]
    · rw [List.getElem?_set_ne (Ne.symm hmj), ← hold]
      have hcase : m < j * k ∨ j * k + k ≤ m := by
        rcases Nat.lt_or_gt_of_ne hmj with h | h
        · left
          have : (m / k + 1) * k ≤ j * k := Nat.mul_le_mul_right _ h
          rw [Nat.succ_mul] at this
          have h2 : m / k * k = k * (m / k) := Nat.mul_comm _ _
          omega
        · right
          have : (j + 1) * k ≤ m / k * k := Nat.mul_le_mul_right _ h
          rw [Nat.succ_mul] at this
          have h2 : m / k * k = k * (m / k) := Nat.mul_comm _ _
          omega
      rcases hcase with h | h
      · rw [List.append_assoc, List.getElem?_append_left (by simp only [List.length_take, Array.length_toList]; omega), List.getElem?_take, if_pos (by omega), Array.getElem?_toList]
      · rw [List.getElem?_append_right (by simp only [List.length_append, List.length_take, Array.length_toList, hn]; omega)]
        simp only [List.length_append, List.length_take, Array.length_toList, hn, hsz, List.getElem?_drop]
        rw [show off + inf.size + (m - (min off (c0 * k) + inf.size)) = m from by omega, Array.getElem?_toList]
def PartOK (k : Nat) (l : List AV) (lo hi : Int) (l' : List AV) : Prop := 0 ≤ lo ∧ lo ≤ hi ∧ hi ≤ l.length ∧ l' = (l.take hi.toNat).drop lo.toNat ∧ ∀ e ∈ l, e.cells.length = k ∧ e.notTup' = true
theorem flat_drop {vs : List Value} {k : Nat} (h : ∀ x ∈ vs, x.cells.size = k) : ∀ n, flat (vs.drop n) = (flat vs).drop (n * k) := by
  induction vs with
  | nil => simp [flat]
  | cons v vs ih =>
    intro n
    cases n with
    | zero => simp
    | succ n =>
      have h1 := h v (by simp)
      have := ih (fun x hx => h x (by simp [hx])) n
      simp only [flat] at this
      simp only [List.drop_succ_cons, flat, List.flatMap_cons, this]
      rw [show (n + 1) * k = v.cells.toList.length + n * k from by simp [h1, Nat.succ_mul]; omega, ← List.drop_drop, List.drop_left]
theorem flat_take {vs : List Value} {k : Nat} (h : ∀ x ∈ vs, x.cells.size = k) : ∀ n, flat (vs.take n) = (flat vs).take (n * k) := by
  induction vs with
  | nil => simp [flat]
  | cons v vs ih =>
    intro n
    cases n with
    | zero => simp [flat]
    | succ n =>
      have h1 := h v (by simp)
      have := ih (fun x hx => h x (by simp [hx])) n
      simp only [flat] at this
      simp only [List.take_succ_cons, flat, List.flatMap_cons, this]
      rw [show (n + 1) * k = v.cells.toList.length + n * k from by simp [h1, Nat.succ_mul]; omega, List.take_length_add_append]
theorem ex_slice {t elem : TypeId} {x : Operand} {lo hi : Option Operand} {l l' : List AV} {m n : Int} {inf : TypeInfo} (ho : o.op = .slice t x lo hi none) (hO : OwnOK B γ H own w) (hx : Conc γ H (.sl l) (a.eval x)) (ht : P.underlying t = some (.slice elem)) (hinf : P.info? elem = some inf)
    (hlo : (lo = none ∧ m = 0) ∨ ∃ y k, lo = some y ∧ Conc γ H (.int k m) (a.eval y)) (hhi : (hi = none ∧ n = l.length) ∨ ∃ y k, hi = some y ∧ Conc γ H (.int k n) (a.eval y)) (hP : PartOK inf.size l m n l') : Exec P ro o a w (ResP B γ H own (.sl l')) := by
  obtain ⟨h0, h1, h2, rfl, hes⟩ := hP
  simp only [Conc] at hx
  obtain ⟨A, c, k, vs, hv, hlc, hl, hks, hp⟩ := hx
  have hu : (underlying t).run P w = .ok (.slice elem) w := by simp [underlying, ht]
  have hsz : (sizeOf elem).run P w = .ok inf.size w := by simp [sizeOf, typeInfo, hinf]
  have hll := concL_length hl
  have hb : (Instr.sliceBounds true l.length c (lo.map a.eval) (hi.map a.eval) none).run P w = .ok (m.toNat, n.toNat, c) w := by
    have hb1 : ∀ (k : IntKind) (i : Int) (y : Nat) (code : BoundsCode), 0 ≤ i → i ≤ y → (Instr.sliceBound (.int k i) y code).run P w = .ok i.toNat w := by
      intro k i y code q1 q2
      simp only [Instr.sliceBound, Sem.run_bind, asIntOf, Sem.run_pure, Result.andThen_ok]
      rw [if_pos ⟨q1, q2⟩]; rfl
    rcases hhi with ⟨rfl, rfl⟩ | ⟨y, k', rfl, hy⟩ <;> rcases hlo with ⟨rfl, rfl⟩ | ⟨y2, k2, rfl, hy2⟩
    · simp [Instr.sliceBounds]
    · have e2 := conc_int.1 hy2
      simp only [Instr.sliceBounds, Option.map_none, Option.map_some, e2, Sem.run_bind, Sem.run_pure, Result.andThen_ok]
      rw [hb1 _ _ _ _ h0 (by omega)]; simp
    · have e1 := conc_int.1 hy
      simp only [Instr.sliceBounds, Option.map_none, Option.map_some, e1, Sem.run_bind, Sem.run_pure, Result.andThen_ok]
      rw [hb1 _ _ _ _ (by omega) (by omega)]; simp
    · have e1 := conc_int.1 hy
      have e2 := conc_int.1 hy2
      simp only [Instr.sliceBounds, Option.map_none, Option.map_some, e1, e2, Sem.run_bind, Sem.run_pure, Result.andThen_ok]
      rw [hb1 _ n _ _ (by omega) (by omega)]
      simp only [Result.andThen_ok, Sem.run_bind]
      rw [hb1 _ m _ _ h0 (by omega)]; simp
  refine exec_val (semAt_of ho (by simp)) (v := .slice (if c = m.toNat then A else A.map (·.add (m.toNat * inf.size))) (n.toNat - m.toNat) (c - m.toNat)) (w' := w) ?_ (ResP.same hO ?_)
  · simp only [execOp, ho, Instr.sliceAt, Instr.slice, Option.map_none, hv, Sem.run_bind, hu, Result.andThen_ok, hb, hsz, Sem.run_pure]
  · have hn' : (vs.take n.toNat).length = n.toNat := by rw [List.length_take]; omega
    simp only [Conc]
    have hlen : ((l.take n.toNat).drop m.toNat).length = n.toNat - m.toNat := by simp; omega
    refine ⟨_, _, k, (vs.take n.toNat).drop m.toNat, by rw [hlen], by rw [hlen]; omega, concL_drop _ (concL_take _ hl), fun x hx => hks x (List.mem_of_mem_take (List.mem_of_mem_drop hx)), fun hne => ?_⟩
    have hne' : l ≠ [] := by rintro rfl; simp at hne
    obtain ⟨b, off, cs, T, fz, rfl, hb', hs⟩ := hp hne'
    have hlt : m.toNat < n.toNat := by
      have : ((l.take n.toNat).drop m.toNat).length ≠ 0 := fun h => hne (List.length_eq_zero_iff.1 h)
      rw [hlen] at this; omega
    have hcm : ¬ c = m.toNat := by omega
    obtain ⟨e, hem⟩ : ∃ e, e ∈ l := by cases l with
      | nil => exact absurd rfl hne'
      | cons e l => exact ⟨e, by simp⟩
    have hik : inf.size = k := by
      obtain ⟨q, hq⟩ := List.mem_iff_getElem?.1 hem
      obtain ⟨v, hv', hcv⟩ := concL_get hl hq
      obtain ⟨h3, h4⟩ := hes e hem
      rw [← h3, ← concL_length (conc_cells hcv (by rintro l rfl; simp [AV.notTup'] at h4)), ← hks v (List.mem_of_getElem? hv')]; simp
    refine ⟨b, off + m.toNat * k, cs, T, fz, by rw [if_neg hcm, hik]; simp [addr_add], hb', ?_⟩
    have hk1 : ∀ x ∈ vs.take n.toNat, x.cells.size = k := fun x hx => hks x (List.mem_of_mem_take hx)
    rw [flat_drop hk1, flat_take hks, List.drop_take]
    exact seg_take hs _
end Go.Fw

namespace Go.Fw
variable {P : Program} {B : Base} {γ : List Value} {H : HP} {own : List OE} {w : World} {a : Act} {ro : Option Nat} {o : Oper}

theorem ex_index_fp {t elem : TypeId} {x ix : Operand} {n off : Nat} {l : List AV} {kk : IntKind} {i : Int} {e : AV} {inf : TypeInfo} (ho : o.op = .indexAddr t x ix) (hO : OwnOK B γ H own w) (hx : Conc γ H (.fp l off) (a.eval x))
    (hi : Conc γ H (.int kk i) (a.eval ix)) (ht : P.underlying t = some (.array n elem)) (hinf : P.info? elem = some inf) (h0 : 0 ≤ i) (hn : i < n) (he : (l.drop (off + i.toNat * inf.size)).take inf.size = e.cells) :
    Exec P ro o a w (ResP B γ H own (.fp e.cells 0)) := by
  simp only [Conc] at hx
  obtain ⟨b, o', cs, T, fz, vs, hv, hb, hl, hs⟩ := hx
  have e1 := conc_int.1 hi
  refine exec_val (semAt_of ho (by simp)) (v := .pointer (some ⟨b, o' + off + i.toNat * inf.size, none⟩)) (w' := w) ?_ (ResP.same hO ?_)
  · have h1 : (underlying t).run P w = .ok (.array n elem) w := by simp [underlying, ht]
    have h2 : (sizeOf elem).run P w = .ok inf.size w := by simp [sizeOf, typeInfo, hinf]
    simp only [execOp, ho, hv, e1, Instr.indexAt, Sem.run_bind, asIntOf, Sem.run_pure, Result.andThen_ok, h1, Instr.sureAddr]
    rw [if_pos ⟨h0, hn⟩]
    simp [h2, addr_add]
  · simp only [Conc]
    refine ⟨b, o' + (off + i.toNat * inf.size), cs, T, fz, (vs.drop (off + i.toNat * inf.size)).take inf.size, by simp [Nat.add_assoc], hb, ?_, seg_take hs _⟩
    rw [← he]; exact concL_take _ (concL_drop _ hl)
theorem OwnOK.addh (h : OwnOK B γ H own w) {v : Value} {e : OE} (hv : hblk v = none) (he : EntryOK (γ ++ [v]) H w own.length e) : OwnOK B (γ ++ [v]) H (own ++ [e]) w := by
  have sp : ∀ (j : Nat) (ej : OE), (own ++ [e])[j]? = some ej → (j < own.length ∧ own[j]? = some ej) ∨ (j = own.length ∧ ej = e) := by
    intro j ej hj
    by_cases hl : j < own.length
    · rw [List.getElem?_append_left hl] at hj; exact .inl ⟨hl, hj⟩
    · have hj' := (List.getElem?_eq_some_iff.1 hj).1
      simp at hj'
      have : j = own.length := by omega
      subst this
      simp at hj; exact .inr ⟨rfl, hj.symm⟩
  have gold : ∀ (j : Nat) (u : Value), j < own.length → (γ ++ [v])[j]? = some u → γ[j]? = some u := by
    intro j u hl hu
    rwa [List.getElem?_append_left (by rw [h.len]; exact hl)] at hu
  have gnew : ∀ (u : Value), (γ ++ [v])[own.length]? = some u → u = v := by
    intro u hu
    rw [List.getElem?_append_right (by rw [h.len]; exact Nat.le_refl _)] at hu
    simp [h.len] at hu; exact hu.symm
  have no : ∀ (u : Value) (b : Nat), (γ ++ [v])[own.length]? = some u → hblk u ≠ some b := by
    intro u b hu; rw [gnew u hu, hv]; simp
  refine ⟨h.os, h.tape, h.output, h.size, h.keep, h.hle, h.hdom, h.fro, by simp [h.len], fun j ej hj => ?_, fun j ej u b hj hnj hu hb => ?_, fun j ej u b hj hnj hu hb => ?_, fun j1 j2 e1 e2 u1 u2 b hj12 h1 h2 n1 n2 g1 g2 b1 => ?_⟩
  · rcases sp j ej hj with ⟨hl, hj'⟩ | ⟨rfl, rfl⟩
    · refine entryOK_map (w := w) (b := w.heap.size) (Ext.snoc γ v) (HLe.refl H) (fun k o _ hk => hk) (fun hne u hu hb => ?_) (h.ent j ej hj')
      have := entryOK_blk (h.ent j ej hj') hne hu hb; omega
    · exact he
  · rcases sp j ej hj with ⟨hl, hj'⟩ | ⟨rfl, rfl⟩
    · exact h.free j ej u b hj' hnj (gold j u hl hu) hb
    · exact absurd hb (no u b hu)
  · rcases sp j ej hj with ⟨hl, hj'⟩ | ⟨rfl, rfl⟩
    · exact h.newb j ej u b hj' hnj (gold j u hl hu) hb
    · exact absurd hb (no u b hu)
  · rcases sp j1 e1 h1 with ⟨l1, o1⟩ | ⟨rfl, rfl⟩ <;> rcases sp j2 e2 h2 with ⟨l2, o2⟩ | ⟨rfl, rfl⟩
    · exact h.apart j1 j2 e1 e2 u1 u2 b hj12 o1 o2 n1 n2 (gold _ _ l1 g1) (gold _ _ l2 g2) b1
    · exact no u2 b g2
    · exact absurd b1 (no u1 b g1)
    · exact absurd rfl hj12
theorem OwnOK.nilrow (h : OwnOK B γ H own w) (T : TypeId) (k : Nat) : OwnOK B (γ ++ [.slice none 0 0]) H (own ++ [.row T k []]) w :=
  h.addh rfl (.inl ⟨rfl, by rw [← h.len]; simp⟩)
theorem ex_nilrow {x : Operand} {T : TypeId} {k : Nat} (ho : o.op = .move x ∨ o.op = .assign x) (hO : OwnOK B γ H own w) (hx : Conc γ H .nsl (a.eval x)) : Exec P ro o a w (ResP B γ H (own ++ [.row T k []]) (.osl own.length)) := by
  simp only [Conc] at hx
  rcases ho with ho | ho
  all_goals
    refine exec_val (semAt_of ho (by simp)) (v := .slice none 0 0) (w' := w) ?_ ⟨γ ++ [.slice none 0 0], H, Ext.snoc γ _, HLe.refl H, hO.nilrow T k, ?_⟩
    · simp only [execOp, ho, hx]; rfl
    · simp only [Conc]; exact ⟨by rw [← hO.len]; simp, _, _, _, rfl⟩
mutual
def AV.wkn : AV → AV
  | .nsl => .sl []
  | .agg l => .agg (AV.wknL l)
  | .tup l => .tup (AV.wknL l)
  | .fn f fs cs => .fn f (AV.wknL fs) (AV.wknL cs)
  | .iface t x => .iface t x.wkn
  | x => x
def AV.wknL : List AV → List AV
  | [] => []
  | x :: xs => x.wkn :: AV.wknL xs
end
mutual
theorem conc_wkn {γ : List Value} {H : HP} : ∀ (x : AV) (v : Value), Conc γ H x v → Conc γ H x.wkn v
  | .int k n, v, h => by simpa [AV.wkn, Conc] using h
  | .bool b, v, h => by simpa [AV.wkn, Conc] using h
  | .str s, v, h => by simpa [AV.wkn, Conc] using h
  | .agg l, v, h => by
    simp only [AV.wkn, Conc] at h ⊢; obtain ⟨vs, rfl, h⟩ := h
    exact ⟨vs, rfl, concL_wkn l vs h⟩
  | .tup l, v, h => by
    simp only [AV.wkn, Conc] at h ⊢; obtain ⟨vs, rfl, h⟩ := h
    exact ⟨vs, rfl, concL_wkn l vs h⟩
  | .sl l, v, h => by simpa only [AV.wkn] using h
  | .nsl, v, h => by
    simp only [AV.wkn, Conc] at h ⊢
    exact ⟨none, 0, 0, [], h, by simp, rfl, by simp, by simp⟩
  | .osl i, v, h => by simpa only [AV.wkn] using h
  | .box i o, v, h => by simpa only [AV.wkn] using h
  | .elp i o, v, h => by simpa only [AV.wkn] using h
  | .fp l off, v, h => by simpa only [AV.wkn] using h
  | .mp i, v, h => by simpa only [AV.wkn] using h
  | .fm ks vs, v, h => by simpa only [AV.wkn] using h
  | .nmp, v, h => by simpa only [AV.wkn] using h
  | .itr i, v, h => by simpa only [AV.wkn] using h
  | .fn g fs cs, v, h => by
    simp only [AV.wkn, Conc] at h ⊢; obtain ⟨ws, us, rfl, h1, h2⟩ := h
    exact ⟨ws, us, rfl, concL_wkn fs ws h1, concL_wkn cs us h2⟩
  | .nilfn, v, h => by simpa only [AV.wkn] using h
  | .iface t x, v, h => by
    simp only [AV.wkn, Conc] at h ⊢; obtain ⟨u, rfl, h⟩ := h
    exact ⟨u, rfl, conc_wkn x u h⟩
  | .nilif, v, h => by simpa only [AV.wkn] using h
  | .nilp, v, h => by simpa only [AV.wkn] using h
  | .junk, v, h => by simpa only [AV.wkn] using h
theorem concL_wkn {γ : List Value} {H : HP} : ∀ (l : List AV) (vs : List Value), ConcL γ H l vs → ConcL γ H (AV.wknL l) vs
  | [], vs, h => by simpa [AV.wknL, ConcL] using h
  | x :: xs, vs, h => by
    simp only [AV.wknL, ConcL] at h ⊢; obtain ⟨v, vs', rfl, hx, hxs⟩ := h
    exact ⟨v, vs', rfl, conc_wkn x v hx, concL_wkn xs vs' hxs⟩
end
theorem ex_call' {G : GTab} {x : Operand} {xs : Array Operand} {tys : Array TypeId} {f : FuncId} {fs cs as args : List AV} {r : AV} (ho : o.op = .call { callee := .value x, args := xs, argTypes := tys })
    (hO : OwnOK B γ H own w) (hG : GOK G H) (hx : Conc γ H (.fn (.func f) fs cs) (a.eval x)) (has : ConcL γ H as (xs.toList.map a.eval)) (hw : ∀ vs, ConcL γ H (fs ++ as ++ cs) vs → ConcL γ H args vs) (hcl : AV.closedL args = true)
    (hr : r.closed = true) (hc : CallA P G f args r) : Exec P ro o a w (ResP B γ H own r) := by
  simp only [Conc] at hx
  obtain ⟨ws, us, hv, h1, h2⟩ := hx
  have hargs : ConcL γ H (fs ++ as ++ cs) (ws ++ xs.toList.map a.eval ++ us) := concL_append (concL_append h1 has) h2
  refine .inr (.inr ⟨f, ⟨ws ++ xs.toList.map a.eval ++ us⟩, w, ?_, ?_⟩)
  · rw [semAt_of ho (by simp)]
    have : (Array.mk ws ++ Array.map a.eval xs ++ Array.mk us) = (⟨ws ++ xs.toList.map a.eval ++ us⟩ : Array Value) := by apply Array.ext'; simp
    simp only [execOp, ho, resolve, Sem.run_bind, Deferred.ofValue, hv, Sem.run_pure, Result.andThen_ok, invoke]
    rw [callFunc_run hc.1, this]
  · refine (hc.2 w H _ hO.hsub hG (concL_close _ _ hcl (hw _ hargs))).mono ?_
    rintro e w' ⟨v, rfl, H', hO', hcv⟩
    exact ⟨v, rfl, γ, H', Ext.refl γ, fun b o hb => hO'.hle b o hb, hO.called hO', conc_open hcv⟩
theorem ex_callB' {G : GTab} {x : Operand} {xs : Array Operand} {tys : Array TypeId} {f : FuncId} {fs cs as args : List AV} {r : AV} (ho : o.op = .call { callee := .value x, args := xs, argTypes := tys })
    (hO : OwnOK B γ H own w) (hG : GOK G H) (hx : Conc γ H (.fn (.func f) fs cs) (a.eval x)) (has : ConcL γ H as (xs.toList.map a.eval))
    (hw : ∀ γ' H' vs, ConcL γ' H' (AV.subL (frz1 own) (fs ++ as ++ cs)) vs → ConcL γ' H' args vs) (hcl : AV.closedL args = true)
    (hr : r.plain = true) (hc : CallA P G f args r) : Exec P ro o a w (ResP B γ H own r) := by
  simp only [Conc] at hx
  obtain ⟨ws, us, hv, h1, h2⟩ := hx
  have hargs : ConcL γ H (fs ++ as ++ cs) (ws ++ xs.toList.map a.eval ++ us) := concL_append (concL_append h1 has) h2
  have hargs2 := hw _ _ _ (concL_sub (hold_le hO) (conc_frz1 hO) _ _ hargs)
  refine .inr (.inr ⟨f, ⟨ws ++ xs.toList.map a.eval ++ us⟩, w, ?_, ?_⟩)
  · rw [semAt_of ho (by simp)]
    have : (Array.mk ws ++ Array.map a.eval xs ++ Array.mk us) = (⟨ws ++ xs.toList.map a.eval ++ us⟩ : Array Value) := by apply Array.ext'; simp
    simp only [execOp, ho, resolve, Sem.run_bind, Deferred.ofValue, hv, Sem.run_pure, Result.andThen_ok, invoke]
    rw [callFunc_run hc.1, this]
  · refine (hc.2 w _ _ (hold_sub hO) (hG.mono (hold_le hO)) (concL_close _ _ hcl hargs2)).mono ?_
    rintro e w' ⟨v, rfl, H', hO', hcv⟩
    exact ⟨v, rfl, γ, H, Ext.refl γ, HLe.refl H, hO.lent hO', conc_plain _ _ hr hcv⟩
def CallO (P : Program) (G : GTab) (f : FuncId) (args : List AV) (own : List OE) (r : AV) (own' : List OE) : Prop := BodyOK P f ∧
  ∀ (B : Base) (γ : List Value) (H : HP) (w : World) (vs : List Value), GOK G B.H → OwnOK B γ H own w → ConcL γ H args vs → Calls P f ⟨vs⟩ w fun e w' => ∃ v, e = .returned v ∧ ResP B γ H own' r v w'
theorem ex_callO {G : GTab} {x : Operand} {xs : Array Operand} {tys : Array TypeId} {f : FuncId} {fs cs as : List AV} {r : AV} {own' : List OE} (ho : o.op = .call { callee := .value x, args := xs, argTypes := tys })
    (hO : OwnOK B γ H own w) (hG : GOK G B.H) (hx : Conc γ H (.fn (.func f) fs cs) (a.eval x)) (has : ConcL γ H as (xs.toList.map a.eval)) (hc : CallO P G f (fs ++ as ++ cs) own r own') : Exec P ro o a w (ResP B γ H own' r) := by
  simp only [Conc] at hx
  obtain ⟨ws, us, hv, h1, h2⟩ := hx
  have hargs : ConcL γ H (fs ++ as ++ cs) (ws ++ xs.toList.map a.eval ++ us) := concL_append (concL_append h1 has) h2
  refine .inr (.inr ⟨f, ⟨ws ++ xs.toList.map a.eval ++ us⟩, w, ?_, ?_⟩)
  · rw [semAt_of ho (by simp)]
    have : (Array.mk ws ++ Array.map a.eval xs ++ Array.mk us) = (⟨ws ++ xs.toList.map a.eval ++ us⟩ : Array Value) := by apply Array.ext'; simp
    simp only [execOp, ho, resolve, Sem.run_bind, Deferred.ofValue, hv, Sem.run_pure, Result.andThen_ok, invoke]
    rw [callFunc_run hc.1, this]
  · exact hc.2 B γ H w _ hG hO hargs
end Go.Fw

namespace Go.Fw
variable {P : Program} {B : Base} {γ : List Value} {H : HP} {own : List OE} {w : World} {a : Act} {ro : Option Nat} {o : Oper} {G : GTab}

inductive Orc where
  | no | may | own
  | av (r : AV)
  | avw (r : AV)
  | lend (r : AV)
  | lendw (r : AV)
  | opn (r : AV) (own' : List OE)
  | dec (c : Bool)
  | is (n : Int)
  | el (j f : Nat) (e : AV) (l : List AV)
  | lst (l : List AV)
  | put (ks vs : List AV)
  | row (T k : Nat)
def AV.notTup : AV → Bool
  | .tup _ => false
  | _ => true
def AV.isPtr : AV → Bool
  | .box _ _ | .fp _ _ | .elp _ _ => true
  | _ => false
def partsAV (G : GTab) (ρ : Rho) (g : Option (Nat × Bool)) : List (Nat × Operand) → Option (List (Nat × AV))
  | [] => some []
  | (i, x) :: ps => match opnd G ρ g x, partsAV G ρ g ps with
    | some v, some r => some ((i, v) :: r)
    | _, _ => none
def partsOne : List (Nat × AV) → Bool
  | [] => true
  | (_, x) :: ps => x.cells.all AV.one && partsOne ps
def orElse (x y : Option AV) : Option AV := match x with
  | some v => some v
  | none => y
def lookRes : Bool → AV → Option (AV × Bool)
  | true, .tup [r, .bool c] => some (r, c)
  | true, _ => none
  | false, r => some (r, true)
def optIx (G : GTab) (ρ : Rho) (g : Option (Nat × Bool)) : Option Operand → Option (Option Int)
  | none => some none
  | some x => match opnd G ρ g x with
    | some (.int _ i) => some (some i)
    | _ => none
def aop (P : Program) (G : GTab) (ρ : Rho) (g : Option (Nat × Bool)) (orc : Orc) : Op → Option Req
  | .move x | .assign x => match orc with
    | .row T k => match opnd G ρ g x with
      | some .nsl => some (.ext (.row T k []) (fun i => .osl i) none)
      | _ => none
    | _ => (opnd G ρ g x).map fun v => .val v none
  | .pick c x y => match opnd G ρ g c with
    | some (.bool t) => match c with
      | .tmp s => (pickAV t (orElse (opnd G ρ g x) (opnd G ρ (some (s, true)) x)) (orElse (opnd G ρ g y) (opnd G ρ (some (s, false)) y))).map fun v => .val v none
      | _ => (pickAV t (opnd G ρ g x) (opnd G ρ g y)).map fun v => .val v none
    | _ => none
  | .alloc T => match P.info? T with
    | some i => match i.zero with
      | some v => match AV.ofV v with
        | some z => bif z.cells.all AV.one then some (.ext (.box none T z.cells) (fun i => .box i 0) none) else none
        | none => none
      | none => none
    | none => none
  | .box T x => match opnd G ρ g x with
    | some z => bif z.cells.all AV.one then some (.ext (.box none T z.cells) (fun i => .box i 0) none) else none
    | none => none
  | .build t parts => match partsAV G ρ g parts.toList with
    | some qs => bif partsOne qs then (buildAV P t qs).map fun v => .val v none else none
    | none => none
  | .buildSlice t len parts => match partsAV G ρ g parts.toList with
    | some qs => match litAV P t len qs with
      | some (e, k, l) => match orc with
        | .own => bif AV.closedL l then some (.ext (.row e k l) (fun i => .osl i) none) else none
        | _ => bif AV.closedL l then some (.val (.sl l) none) else none
      | none => none
    | none => none
  | .load T x => match opnd G ρ g x with
    | some (.box i off) => some (.rd i fun
      | .box _ _ cs => (loadAV P T cs off).map fun v => (v, none)
      | _ => none)
    | some (.fp cs off) => (loadAV P T cs off).map fun v => .val v none
    | some (.elp i off) => match orc with
      | .el j f e _ => some (.rd i fun
        | .row _ k xs => bif e.notTup then (loadAV P T e.cells f).map fun v => (v, some (off = j * k + f ∧ xs[j]? = some e)) else none
        | _ => none)
      | _ => none
    | _ => none
  | .store T x y => match opnd G ρ g x, opnd G ρ g y with
    | some (.box i off), some z => some (.wr i fun
      | .box h0 T0 cs => (storeAV P T cs off z).map fun cs' => (.box h0 T0 cs', none)
      | _ => none)
    | some (.elp i off), some z => match orc with
      | .el j f e l => some (.wr i fun
        | .row T0 k xs => match storeAV P T e.cells f z with
          | some cs' => bif z.closed && e.notTup' && (e.cells.length == k) && Nat.ble 1 k && e.shapeOK cs' then some (.row T0 k l, some (off = j * k + f ∧ xs[j]? = some e ∧ l = xs.set j (newElem e cs'))) else none
          | none => none
        | _ => none)
      | _ => none
    | _, _ => none
  | .nilCheck x => match opnd G ρ g x with
    | some z => bif z.isPtr then some (.val z none) else none
    | none => none
  | .binOp op t x y _ => match opnd G ρ g x, opnd G ρ g y with
    | some (.agg l), some (.agg l') => match op with
      | .eql | .neq => (eqStruct P op t l l').map fun c => .val (.bool c) none
      | _ => none
    | some (.bool p), some (.bool q) => match P.underlying t with
      | some .bool => (eqB op p q).map fun c => .val (.bool c) none
      | _ => none
    | some u, some v => (binAV op u v).map fun v => .val v none
    | _, _ => none
  | .unOp op _ x => match opnd G ρ g x with
    | some u => (unAV op u).map fun v => .val v none
    | none => none
  | .convert s d x => match opnd G ρ g x, P.underlying s, P.underlying d with
    | some (.int _ n), some _, some (.int k') => some (.val (.int k' (k'.wrap n)) none)
    | _, _, _ => none
  | .makeFunc f xs ys => match opnds G ρ g xs.toList, opnds G ρ g ys.toList with
    | some fs, some cs => some (.val (.fn f fs cs) none)
    | _, _ => none
  | .makeMap _ none => some (.ext (.map [] []) (fun i => .mp i) none)
  | .lookup t x y ok => match P.underlying t, opnd G ρ g x, opnd G ρ g y, orc with
    | some (.map kt et), some m, some key, .av v => match zeroAV P et, lookRes ok v with
      | some z, some (r, c) => match m with
        | .fm ks vs => some (.val v (some (bif ok then LookOK P kt ks vs key r z c else ∃ c, LookOK P kt ks vs key r z c)))
        | .mp i => some (.rd i fun
          | .map ks vs => some (v, some (bif ok then LookOK P kt ks vs key r z c else ∃ c, LookOK P kt ks vs key r z c))
          | _ => none)
        | _ => none
      | _, _ => none
    | _, _, _, _ => none
  | .mapUpdate t x y z => match P.underlying t, opnd G ρ g x, opnd G ρ g y, opnd G ρ g z, orc with
    | some (.map kt _), some (.mp i), some key, some val, .put ks' vs' => bif val.closed then some (.wr i fun
      | .map ks vs => some (.map ks' vs', some (PutOK P kt ks vs key val ks' vs'))
      | _ => none) else none
    | _, _, _, _, _ => none
  | .range t x => match P.underlying t, opnd G ρ g x with
    | some (.map _ _), some (.fm ks vs) => some (.ext (.iter ks vs none) (fun i => .itr i) none)
    | _, _ => none
  | .entry x => match opnd G ρ g x with
    | some (.itr i) => some (.rd i fun
      | .iter _ _ (some c) => some (.tup [c.1, c.2], none)
      | _ => none)
    | _ => none
  | .slice t x lo hi none => match P.underlying t, opnd G ρ g x, optIx G ρ g lo, optIx G ρ g hi, orc with
    | some (.slice elem), some (.sl l), some m, some n, .av (.sl l') => match P.info? elem with
      | some inf => some (.val (.sl l') (some (PartOK inf.size l (m.getD 0) (n.getD l.length) l')))
      | none => none
    | _, _, _, _, _ => none
  | .fieldAddr sT x j => match opnd G ρ g x, fieldOf P sT j with
    | some z, some (off, _, sz) => bif Nat.ble 1 sz then (ptrAdd z off).map fun v => .val v none else none
    | _, _ => none
  | .field sT x j => match opnd G ρ g x, fieldOf P sT j with
    | some (.agg l), some (off, fT, _) => (loadAV P fT l off).map fun v => .val v none
    | _, _ => none
  | .extract x j => match opnd G ρ g x with
    | some (.tup l) => (l[j]?).map fun v => .val v none
    | _ => none
  | .indexAddr t x ix => match P.underlying t, opnd G ρ g x, opnd G ρ g ix, orc with
    | some (.slice elem), some (.sl l), some (.int _ i), .av e => match P.info? elem with
      | some inf => bif (inf.size == e.cells.length) && e.notTup then some (.val (.fp e.cells 0) (some (0 ≤ i ∧ l[i.toNat]? = some e))) else none
      | none => none
    | some (.slice elem), some (.osl j), some (.int _ i), _ => match P.info? elem with
      | some inf => some (.rd j fun
        | .row _ k xs => bif inf.size == k then some (.elp j (i.toNat * k), some (0 ≤ i ∧ i.toNat < xs.length)) else none
        | _ => none)
      | none => none
    | some (.array n elem), some (.fp l off), some (.int _ i), .av e => match P.info? elem with
      | some inf => some (.val (.fp e.cells 0) (some (0 ≤ i ∧ i < n ∧ (l.drop (off + i.toNat * inf.size)).take inf.size = e.cells)))
      | none => none
    | _, _, _, _ => none
  | .call { callee := .value x, args := xs, argTypes := _ } => match opnd G ρ g x, opnds G ρ g xs.toList with
    | some (.fn (.func f) fs cs), some as => match orc with
      | .av r => bif AV.closedL (fs ++ as ++ cs) && r.closed then some (.val r (some (CallA P G f (fs ++ as ++ cs) r))) else none
      | .avw r => bif AV.closedL (AV.wknL (fs ++ as ++ cs)) && r.closed then some (.val r (some (CallA P G f (AV.wknL (fs ++ as ++ cs)) r))) else none
      | .opn r own' => some (.opn fun own => some (own', r, some (CallO P G f (fs ++ as ++ cs) own r own')))
      | .lend r => some (.all fun own => bif AV.closedL (AV.subL (frz1 own) (fs ++ as ++ cs)) && r.plain then some (r, some (CallA P G f (AV.subL (frz1 own) (fs ++ as ++ cs)) r)) else none)
      | .lendw r => some (.all fun own => bif AV.closedL (AV.wknL (AV.subL (frz1 own) (fs ++ as ++ cs))) && r.plain then some (r, some (CallA P G f (AV.wknL (AV.subL (frz1 own) (fs ++ as ++ cs))) r)) else none)
      | _ => none
    | _, _ => none
  | .call { callee := .builtin .len, args := xs, argTypes := ts } => match xs.toList, ts.toList with
    | [x], [t] => match P.underlying t, opnd G ρ g x with
      | some (.slice _), some (.sl l) => some (.val (.int .i64 l.length) none)
      | some (.slice _), some .nsl => some (.val (.int .i64 0) none)
      | some (.slice _), some (.osl i) => some (.rd i fun
        | .row _ _ l => some (.int .i64 l.length, none)
        | _ => none)
      | _, _ => none
    | _, _ => none
  | .call { callee := .builtin .append, args := xs, argTypes := ts } => match xs.toList, ts.toList with
    | [s, x], [t, t'] => bif t == t' then match P.underlying t, opnd G ρ g s, opnd G ρ g x with
        | some (.slice elem), some (.osl i), some (.sl l) => match P.info? elem with
          | some inf => match inf.zero with
            | some z => bif (z.cells.size == inf.size) && Nat.ble 1 inf.size && Nat.ble inf.bytes 1048576 then some (.mv i fun
                | .row T k xs => bif (T == elem) && (inf.size == k) then (match orc with
                    | .lst l' => some (.row T k l', some (AppOK k xs l ∧ l' = xs ++ l))
                    | _ => some (.row T k (xs ++ l), some (AppOK k xs l))) else none
                | _ => none) else none
            | none => none
          | none => none
        | _, _, _ => none
      else none
    | _, _ => none
  | .call { callee := .builtin .delete, args := xs, argTypes := ts } => match xs.toList, ts.toList with
    | [x, y], [t, _] => match P.underlying t, opnd G ρ g x, opnd G ρ g y, orc with
      | some (.map kt _), some (.mp i), some key, .put ks' vs' => some (.wr i fun
        | .map ks vs => some (.map ks' vs', some (DelOK P kt ks vs key ks' vs'))
        | _ => none)
      | _, _, _, _ => none
    | _, _ => none
  | .call { callee := .builtin .min, args := xs, argTypes := _ } => match xs.toList with
    | [x, y] => match opnd G ρ g x, opnd G ρ g y with
      | some (.int k m), some (.int k' n) => if k = k' then some (.val (.int k (if n < m then n else m)) none) else none
      | _, _ => none
    | _ => none
  | .call { callee := .builtin .max, args := xs, argTypes := _ } => match xs.toList with
    | [x, y] => match opnd G ρ g x, opnd G ρ g y with
      | some (.int k m), some (.int k' n) => if k = k' then some (.val (.int k (if m < n then n else m)) none) else none
      | _, _ => none
    | _ => none
  | _ => none
def EnvR (γ : List Value) (H : HP) (ρ : Rho) (tmps : Array Value) : Prop := ∀ (t : Nat) (e : EV), ρ t = some e → ∃ v, tmps[t]? = some v ∧
  match e with
  | .av x => Conc γ H x v
  | .gd s b x => tmps[s]? = some (.bool b) → Conc γ H x v
def GCtx (g : Option (Nat × Bool)) (tmps : Array Value) : Prop := ∀ s b, g = some (s, b) → tmps[s]? = some (.bool b)
theorem look_sound {ρ : Rho} {g : Option (Nat × Bool)} {t : Nat} {x : AV} (hE : EnvR γ H ρ a.tmps) (hg : GCtx g a.tmps) (h : look ρ g t = some x) : Conc γ H x (a.eval (.tmp t)) := by
  have key : ∀ v, a.tmps[t]? = some v → a.eval (.tmp t) = v := fun v hv => by simp [Act.eval, Array.getD_eq_getD_getElem?, hv]
  unfold look at h
  split at h
  · rename_i y hy; cases h
    obtain ⟨v, hv, hc⟩ := hE t _ hy
    rw [key v hv]; exact hc
  · rename_i s b y hy
    obtain ⟨v, hv, hc⟩ := hE t _ hy
    split at h
    · rename_i s' b'
      cases hh : (s == s') && (b == b')
      · rw [hh] at h; cases h
      · rw [hh] at h; simp only [cond_true, Option.some.injEq] at h; subst h
        simp only [Bool.and_eq_true, beq_iff_eq] at hh
        obtain ⟨rfl, rfl⟩ := hh
        rw [key v hv]; exact hc (hg s b rfl)
    · cases h
  · cases h
theorem look_slot {ρ : Rho} {g : Option (Nat × Bool)} {t : Nat} {x : AV} {v : Value} (hE : EnvR γ H ρ a.tmps) (h : look ρ g t = some x) (hv : a.eval (.tmp t) = v) : a.tmps[t]? = some v := by
  have key : ∀ e, ρ t = some e → a.tmps[t]? = some v := fun e he => by
    obtain ⟨u, hu, _⟩ := hE t e he
    rw [hu, ← hv]; simp [Act.eval, Array.getD_eq_getD_getElem?, hu]
  unfold look at h
  split at h
  · rename_i y hy; exact key _ hy
  · rename_i s b y hy; exact key _ hy
  · cases h
theorem opnd_sound {ρ : Rho} {g : Option (Nat × Bool)} {x : Operand} {z : AV} (hE : EnvR γ H ρ a.tmps) (hg : GCtx g a.tmps) (hG : GOK G H) (h : opnd G ρ g x = some z) : Conc γ H z (a.eval x) := by
  cases x with
  | tmp t => exact look_sound hE hg h
  | const v => exact conc_ofV h
  | global n =>
    simp only [opnd] at h
    cases hl : G.lookup n with
    | none => rw [hl] at h; cases h
    | some cs =>
      rw [hl] at h; cases h
      have hm : (n, cs) ∈ G := by
        clear hG hE hg
        induction G with
        | nil => simp at hl
        | cons p G ih =>
          obtain ⟨m, c⟩ := p
          simp only [List.lookup] at hl
          split at hl
          · rename_i hb; simp only [beq_iff_eq] at hb; cases hl; subst hb; simp
          · exact List.mem_cons_of_mem _ (ih hl)
      exact conc_open (hG _ hm)
  | func f => simp only [opnd, Option.some.injEq] at h; subst h; simp [Conc, ConcL, Act.eval]
theorem opnds_sound {ρ : Rho} {g : Option (Nat × Bool)} (hE : EnvR γ H ρ a.tmps) (hg : GCtx g a.tmps) (hG : GOK G H) : ∀ {xs : List Operand} {l : List AV}, opnds G ρ g xs = some l → ConcL γ H l (xs.map a.eval)
  | [], l, h => by simp only [opnds, Option.some.injEq] at h; subst h; rfl
  | x :: xs, l, h => by
    unfold opnds at h
    split at h
    · rename_i z r hz hr
      cases h; exact ⟨_, _, rfl, opnd_sound hE hg hG hz, opnds_sound hE hg hG hr⟩
    · cases h
theorem parts_sound {ρ : Rho} {g : Option (Nat × Bool)} (hE : EnvR γ H ρ a.tmps) (hg : GCtx g a.tmps) (hG : GOK G H) : ∀ {ps : List (Nat × Operand)} {qs : List (Nat × AV)}, partsAV G ρ g ps = some qs → PartsV γ H (ps.map fun p => (p.1, a.eval p.2)) qs
  | [], qs, h => by simp only [partsAV, Option.some.injEq] at h; subst h; trivial
  | (i, x) :: ps, qs, h => by
    unfold partsAV at h
    split at h
    · rename_i z r hz hr
      cases h; exact ⟨rfl, opnd_sound hE hg hG hz, parts_sound hE hg hG hr⟩
    · cases h
theorem parts_cells : ∀ {ps : List (Nat × Value)} {qs : List (Nat × AV)}, PartsV γ H ps qs → partsOne qs = true → PartsOK γ H ps qs
  | [], [], _, _ => trivial
  | (_, _) :: _, [], h, _ => h.elim
  | [], (_, _) :: _, h, _ => h.elim
  | (i, v) :: ps, (j, x) :: qs, h, ho => by
    simp only [partsOne, Bool.and_eq_true] at ho
    exact ⟨h.1, (concL_cells_one h.2.1 ho.1).1, parts_cells h.2.2 ho.2⟩
theorem isPtr_sound {z : AV} {v : Value} (hz : z.isPtr = true) (h : Conc γ H z v) : ∃ ad, v = .pointer (some ad) := by
  cases z <;> simp only [AV.isPtr, Bool.false_eq_true] at hz <;> simp only [Conc] at h
  · obtain ⟨b, _, rfl⟩ := h; exact ⟨_, rfl⟩
  · obtain ⟨b, _, _, _, rfl⟩ := h; exact ⟨_, rfl⟩
  · obtain ⟨b, _, _, _, _, _, rfl, _⟩ := h; exact ⟨_, rfl⟩
theorem cond_some {α : Type} {c : Bool} {x : α} {y : Option α} {r : α} (h : (bif c then some x else none) = some r) : c = true ∧ x = r := by
  cases c
  · cases h
  · exact ⟨rfl, by simpa using h⟩
theorem cond_opt {α : Type} {c : Bool} {y : Option α} {r : α} (h : (bif c then y else none) = some r) : c = true ∧ y = some r := by
  cases c
  · cases h
  · exact ⟨rfl, h⟩
theorem toList_one {α : Type} {xs : Array α} {x : α} (h : xs.toList = [x]) : xs = #[x] := by apply Array.ext'; simpa using h
theorem toList_two {α : Type} {xs : Array α} {x y : α} (h : xs.toList = [x, y]) : xs = #[x, y] := by apply Array.ext'; simpa using h
theorem GOK.here {G : GTab} (h : GOK G B.H) (hO : OwnOK B γ H own w) : GOK G H := h.mono (fun b o hb => hO.hle b o hb)
set_option maxHeartbeats 1600000 in
theorem aop_sound {ρ : Rho} {g : Option (Nat × Bool)} {orc : Orc} {op : Op} {req : Req} {own' : List OE} {r : AV} {ob : Option Prop} (ho : o.op = op) (hO : OwnOK B γ H own w) (hE : EnvR γ H ρ a.tmps) (hg : GCtx g a.tmps)
    (hG : GOK G B.H) (h : aop P G ρ g orc op = some req) (hs : stepReq own req = some (own', r, ob)) (hob : ∀ p, ob = some p → p) : Exec P ro o a w (ResP B γ H own' r) := by
  have hG' := hG.here hO
  have val : ∀ {v : AV} {ob' : Option Prop} {z : Option AV}, z.map (fun v => Req.val v ob') = some req → ∃ v, z = some v ∧ own' = own ∧ r = v ∧ ob = ob' := by
    intro v ob' z hz
    cases z with
    | none => cases hz
    | some v => cases hz; simp only [stepReq, Option.some.injEq, Prod.mk.injEq] at hs; obtain ⟨rfl, rfl, rfl⟩ := hs; exact ⟨v, rfl, rfl, rfl, rfl⟩
  unfold aop at h
  split at h
  · -- move
    rename_i x
    split at h
    · split at h
      · rename_i hx
        cases h
        simp only [stepReq, Option.some.injEq, Prod.mk.injEq] at hs; obtain ⟨rfl, rfl, rfl⟩ := hs
        exact ex_nilrow (.inl ho) hO (opnd_sound hE hg hG' hx)
      · cases h
    · obtain ⟨v, hv, rfl, rfl, _⟩ := val (v := r) h
      exact ex_move (.inl ho) hO (opnd_sound hE hg hG' hv)
  · rename_i x
    split at h
    · split at h
      · rename_i hx
        cases h
        simp only [stepReq, Option.some.injEq, Prod.mk.injEq] at hs; obtain ⟨rfl, rfl, rfl⟩ := hs
        exact ex_nilrow (.inr ho) hO (opnd_sound hE hg hG' hx)
      · cases h
    · obtain ⟨v, hv, rfl, rfl, _⟩ := val (v := r) h
      exact ex_move (.inr ho) hO (opnd_sound hE hg hG' hv)
  · -- pick
    rename_i c x y
    split at h
    case h_2 => cases h
    rename_i t hc
    have hcc := opnd_sound hE hg hG' hc
    split at h
    · rename_i s
      obtain ⟨v, hv, rfl, rfl, _⟩ := val (v := r) h
      have hst : ∀ b, t = b → GCtx (some (s, b)) a.tmps := by
        rintro b rfl s' b' e
        cases e
        have := conc_bool.1 hcc
        exact look_slot hE hc this
      refine ex_pick ho hO hcc (fun ht z hz => ?_) (fun ht z hz => ?_) hv
      · unfold orElse at hz
        split at hz
        · rename_i v' hv'; cases hz; exact opnd_sound hE hg hG' hv'
        · exact opnd_sound hE (hst true ht) hG' hz
      · unfold orElse at hz
        split at hz
        · rename_i v' hv'; cases hz; exact opnd_sound hE hg hG' hv'
        · exact opnd_sound hE (hst false ht) hG' hz
    · obtain ⟨v, hv, rfl, rfl, _⟩ := val (v := r) h
      exact ex_pick ho hO hcc (fun ht z hz => opnd_sound hE hg hG' hz) (fun ht z hz => opnd_sound hE hg hG' hz) hv
  · -- alloc
    rename_i T
    split at h
    case h_2 => cases h
    rename_i i hi
    split at h
    case h_2 => cases h
    rename_i v hv
    split at h
    case h_2 => cases h
    rename_i z hz
    obtain ⟨h1, rfl⟩ := cond_some (y := none) h
    simp only [stepReq, Option.some.injEq, Prod.mk.injEq] at hs; obtain ⟨rfl, rfl, rfl⟩ := hs
    exact ex_alloc ho hO hi hv hz h1
  · -- box
    rename_i T x
    split at h
    case h_2 => cases h
    rename_i z hz
    obtain ⟨h1, rfl⟩ := cond_some (y := none) h
    simp only [stepReq, Option.some.injEq, Prod.mk.injEq] at hs; obtain ⟨rfl, rfl, rfl⟩ := hs
    exact ex_box ho hO (opnd_sound hE hg hG' hz) h1
  · -- build
    rename_i t parts
    split at h
    case h_2 => cases h
    rename_i qs hqs
    obtain ⟨h1, h⟩ := cond_opt h
    obtain ⟨v, hv, rfl, rfl, _⟩ := val (v := r) h
    exact ex_build ho hO (parts_cells (parts_sound hE hg hG' hqs) h1) hv
  · -- buildSlice
    rename_i t len parts
    split at h
    case h_2 => cases h
    rename_i qs hqs
    split at h
    case h_2 => cases h
    rename_i e k l hl
    split at h
    · obtain ⟨h1, rfl⟩ := cond_some (y := none) h
      simp only [stepReq, Option.some.injEq, Prod.mk.injEq] at hs; obtain ⟨rfl, rfl, rfl⟩ := hs
      exact ex_litO ho hO (parts_sound hE hg hG' hqs) hl h1
    · obtain ⟨h1, rfl⟩ := cond_some (y := none) h
      simp only [stepReq, Option.some.injEq, Prod.mk.injEq] at hs; obtain ⟨rfl, rfl, rfl⟩ := hs
      exact ex_lit ho hO (parts_sound hE hg hG' hqs) hl h1
  · -- load
    rename_i T x
    split at h
    · rename_i i off hx
      cases h
      unfold stepReq at hs
      simp only at hs
      split at hs
      case h_2 => cases hs
      rename_i e he
      split at hs
      · rename_i h0 T0 cs
        cases hl : loadAV P T cs off with
        | none => rw [hl] at hs; cases hs
        | some v =>
          rw [hl] at hs; simp only [Option.map_some, Option.some.injEq, Prod.mk.injEq] at hs; obtain ⟨rfl, rfl, rfl⟩ := hs
          exact ex_load_box ho hO (opnd_sound hE hg hG' hx) he hl
      · cases hs
    · rename_i cs off hx
      obtain ⟨v, hv, rfl, rfl, _⟩ := val (v := r) h
      exact ex_load_fp ho hO (opnd_sound hE hg hG' hx) hv
    · rename_i i off hx
      split at h
      case h_2 => cases h
      rename_i j f e l
      cases h
      unfold stepReq at hs
      simp only at hs
      split at hs
      case h_2 => cases hs
      rename_i e0 he
      split at hs
      · rename_i T0 k xs
        cases hnt : e.notTup
        · rw [hnt] at hs; cases hs
        · rw [hnt] at hs
          cases hl : loadAV P T e.cells f with
          | none => rw [hl] at hs; cases hs
          | some v =>
            rw [hl] at hs; simp only [cond_true, Option.map_some, Option.some.injEq, Prod.mk.injEq] at hs; obtain ⟨rfl, rfl, rfl⟩ := hs
            obtain ⟨q1, q2⟩ := hob _ rfl
            exact ex_load_elp ho hO (opnd_sound hE hg hG' hx) he q1 q2 (fun l e => by subst e; simp [AV.notTup] at hnt) hl
      · cases hs
    · cases h
  · -- store
    rename_i T x y
    split at h
    · rename_i i off z hx hz
      cases h
      unfold stepReq at hs
      simp only at hs
      split at hs
      case h_2 => cases hs
      rename_i e he
      split at hs
      · rename_i h0 T0 cs
        cases hl : storeAV P T cs off z with
        | none => rw [hl] at hs; cases hs
        | some cs' =>
          rw [hl] at hs; simp only [Option.map_some, Option.some.injEq, Prod.mk.injEq] at hs; obtain ⟨rfl, rfl, rfl⟩ := hs
          exact ex_store_box ho hO (opnd_sound hE hg hG' hx) (opnd_sound hE hg hG' hz) he hl
      · cases hs
    · rename_i i off z hx hz
      split at h
      case h_2 => cases h
      rename_i j f e l
      cases h
      unfold stepReq at hs
      simp only at hs
      split at hs
      case h_2 => cases hs
      rename_i e0 he
      split at hs
      · rename_i T0 k xs
        cases hl : storeAV P T e.cells f z with
        | none => rw [hl] at hs; cases hs
        | some cs' =>
          rw [hl] at hs
          simp only at hs
          cases hcd : z.closed && e.notTup' && (e.cells.length == k) && Nat.ble 1 k && e.shapeOK cs'
          · rw [hcd] at hs; cases hs
          · rw [hcd] at hs
            simp only [Bool.and_eq_true, beq_iff_eq] at hcd
            simp only [cond_true, Option.map_some, Option.some.injEq, Prod.mk.injEq] at hs; obtain ⟨rfl, rfl, rfl⟩ := hs
            obtain ⟨q1, q2, rfl⟩ := hob _ rfl
            exact ex_store_elp ho hO (opnd_sound hE hg hG' hx) (conc_close _ _ hcd.1.1.1.1 (opnd_sound hE hg hG' hz)) he q1 q2 hcd.1.1.1.2 hcd.1.1.2 (Nat.le_of_ble_eq_true hcd.1.2) hl hcd.2
      · cases hs
    · cases h
  · -- nilCheck
    rename_i x
    split at h
    case h_2 => cases h
    rename_i z hz
    obtain ⟨h1, rfl⟩ := cond_some (y := none) h
    simp only [stepReq, Option.some.injEq, Prod.mk.injEq] at hs; obtain ⟨rfl, rfl, rfl⟩ := hs
    have hc := opnd_sound hE hg hG' hz
    exact ex_nilCheck ho hO hc (isPtr_sound h1 hc)
  · -- binOp
    rename_i op t x y t'
    split at h
    · rename_i l l' hu hv
      have key : ∀ (z : Option Bool), z.map (fun c => Req.val (AV.bool c) none) = some req → ∃ c, z = some c ∧ own' = own ∧ r = .bool c := by
        intro z hz
        cases z with
        | none => cases hz
        | some c => cases hz; simp only [stepReq, Option.some.injEq, Prod.mk.injEq] at hs; obtain ⟨rfl, rfl, rfl⟩ := hs; exact ⟨c, rfl, rfl, rfl⟩
      split at h
      · obtain ⟨c, hc, rfl, rfl⟩ := key _ h
        exact ex_eqStruct ho hO (opnd_sound hE hg hG' hu) (opnd_sound hE hg hG' hv) hc
      · obtain ⟨c, hc, rfl, rfl⟩ := key _ h
        exact ex_eqStruct ho hO (opnd_sound hE hg hG' hu) (opnd_sound hE hg hG' hv) hc
      · cases h
    · rename_i p q hu hv
      split at h
      · rename_i hub
        generalize hz : eqB op p q = z at h
        cases z with
        | none => cases h
        | some c =>
          cases h; simp only [stepReq, Option.some.injEq, Prod.mk.injEq] at hs; obtain ⟨rfl, rfl, rfl⟩ := hs
          exact ex_eqBool ho hO (opnd_sound hE hg hG' hu) (opnd_sound hE hg hG' hv) hub hz
      · cases h
    · rename_i u v _ _ hu hv
      obtain ⟨z, hz, rfl, rfl, _⟩ := val (v := r) h
      exact ex_binOp ho hO (opnd_sound hE hg hG' hu) (opnd_sound hE hg hG' hv) hz
    · cases h
  · rename_i op t x
    split at h
    case h_2 => cases h
    rename_i u hu
    obtain ⟨z, hz, rfl, rfl, _⟩ := val (v := r) h
    exact ex_unOp ho hO (opnd_sound hE hg hG' hu) hz
  · -- convert
    rename_i s d x
    split at h
    case h_2 => cases h
    rename_i k n td k' hx hs' hd
    cases h
    simp only [stepReq, Option.some.injEq, Prod.mk.injEq] at hs; obtain ⟨rfl, rfl, rfl⟩ := hs
    exact ex_convert ho hO (opnd_sound hE hg hG' hx) hs' hd
  · -- makeFunc
    rename_i f xs ys
    split at h
    case h_2 => cases h
    rename_i fs cs hf hc
    cases h
    simp only [stepReq, Option.some.injEq, Prod.mk.injEq] at hs; obtain ⟨rfl, rfl, rfl⟩ := hs
    exact ex_makeFunc ho hO (opnds_sound hE hg hG' hf) (opnds_sound hE hg hG' hc)
  · -- makeMap
    cases h
    simp only [stepReq, Option.some.injEq, Prod.mk.injEq] at hs; obtain ⟨rfl, rfl, rfl⟩ := hs
    exact ex_makeMap ho hO
  · -- lookup
    rename_i t x y ok
    split at h
    case h_2 => cases h
    rename_i kt et m key v ht hx hy
    split at h
    case h_2 => cases h
    rename_i z r0 c hz hv
    have hcx := opnd_sound hE hg hG' hx
    have hcy := opnd_sound hE hg hG' hy
    have hv' : ∀ c', (ok = true → c' = c) → (if ok then AV.tup [r0, .bool c'] else r0) = v := by
      intro c' hc'
      unfold lookRes at hv
      split at hv
      · cases hv; rw [hc' rfl]; rfl
      · cases hv
      · cases hv; rfl
    have hL : ∀ {ks vs : List AV}, (bif ok then LookOK P kt ks vs key r0 z c else ∃ c, LookOK P kt ks vs key r0 z c) → ∃ c', (ok = true → c' = c) ∧ LookOK P kt ks vs key r0 z c' := by
      intro ks vs hq
      cases ok
      · obtain ⟨c', hq⟩ := hq; exact ⟨c', by simp, hq⟩
      · exact ⟨c, fun _ => rfl, hq⟩
    split at h
    · rename_i ks vs
      cases h
      simp only [stepReq, Option.some.injEq, Prod.mk.injEq] at hs; obtain ⟨rfl, rfl, rfl⟩ := hs
      obtain ⟨c', hc', hq⟩ := hL (hob _ rfl)
      rw [← hv' c' hc']
      exact ex_lookup_fm ho hO hcx hcy ht hz hq
    · rename_i i
      cases h
      unfold stepReq at hs
      simp only at hs
      split at hs
      case h_2 => cases hs
      rename_i e he
      split at hs
      · rename_i ks vs
        simp only [Option.map_some, Option.some.injEq, Prod.mk.injEq] at hs; obtain ⟨rfl, rfl, rfl⟩ := hs
        obtain ⟨c', hc', hq⟩ := hL (hob _ rfl)
        rw [← hv' c' hc']
        exact ex_lookup_mp ho hO hcx he hcy ht hz hq
      · cases hs
    · cases h
  · -- mapUpdate
    rename_i t x y z
    split at h
    case h_2 => cases h
    rename_i kt et i key val ks' vs' ht hx hy hz
    obtain ⟨hcl, rfl⟩ := cond_some (y := none) h
    unfold stepReq at hs
    simp only at hs
    split at hs
    case h_2 => cases hs
    rename_i e he
    split at hs
    · rename_i ks vs
      simp only [Option.map_some, Option.some.injEq, Prod.mk.injEq] at hs; obtain ⟨rfl, rfl, rfl⟩ := hs
      exact ex_mapUpdate ho hO (opnd_sound hE hg hG' hx) he (opnd_sound hE hg hG' hy) (conc_close _ _ hcl (opnd_sound hE hg hG' hz)) ht (hob _ rfl)
    · cases hs
  · -- range
    rename_i t x
    split at h
    case h_2 => cases h
    rename_i kt et ks vs ht hx
    cases h
    simp only [stepReq, Option.some.injEq, Prod.mk.injEq] at hs; obtain ⟨rfl, rfl, rfl⟩ := hs
    exact ex_range_fm ho hO (opnd_sound hE hg hG' hx) ht
  · -- entry
    rename_i x
    split at h
    case h_2 => cases h
    rename_i i hx
    cases h
    unfold stepReq at hs
    simp only at hs
    split at hs
    case h_2 => cases hs
    rename_i e he
    split at hs
    · rename_i rk rv c
      simp only [Option.map_some, Option.some.injEq, Prod.mk.injEq] at hs; obtain ⟨rfl, rfl, rfl⟩ := hs
      exact ex_entry ho hO (opnd_sound hE hg hG' hx) he
    · cases hs
  · -- slice
    rename_i t x lo hi
    split at h
    case h_2 => cases h
    rename_i elem l m n l' ht hx hm hn
    split at h
    case h_2 => cases h
    rename_i inf hinf
    cases h
    simp only [stepReq, Option.some.injEq, Prod.mk.injEq] at hs; obtain ⟨rfl, rfl, rfl⟩ := hs
    have ix : ∀ {z : Option Operand} {q : Option Int} (d : Int), optIx G ρ g z = some q → (z = none ∧ q.getD d = d) ∨ ∃ y k, z = some y ∧ Conc γ H (.int k (q.getD d)) (a.eval y) := by
      intro z q d hq
      unfold optIx at hq
      split at hq
      · cases hq; exact .inl ⟨rfl, rfl⟩
      · rename_i y
        split at hq
        · rename_i k i' hy
          cases hq
          exact .inr ⟨y, k, rfl, opnd_sound hE hg hG' hy⟩
        · cases hq
    exact ex_slice ho hO (opnd_sound hE hg hG' hx) ht hinf (ix 0 hm) (ix l.length hn) (hob _ rfl)
  · -- fieldAddr
    rename_i sT x j
    split at h
    case h_2 => cases h
    rename_i z off fT sz hx hf
    obtain ⟨h1, h⟩ := cond_opt h
    obtain ⟨v, hv, rfl, rfl, _⟩ := val (v := r) h
    exact ex_fieldAddr ho hO (opnd_sound hE hg hG' hx) hf h1 hv
  · -- field
    rename_i sT x j
    split at h
    case h_2 => cases h
    rename_i l off fT sz hx hf
    obtain ⟨v, hv, rfl, rfl, _⟩ := val (v := r) h
    exact ex_field ho hO (opnd_sound hE hg hG' hx) hf hv
  · -- extract
    rename_i x j
    split at h
    case h_2 => cases h
    rename_i l hx
    obtain ⟨v, hv, rfl, rfl, _⟩ := val (v := r) h
    exact ex_extract ho hO (opnd_sound hE hg hG' hx) hv
  · -- indexAddr
    rename_i t x ix
    split at h
    · rename_i elem l kk i e ht hx hi
      split at h
      case h_2 => cases h
      rename_i inf hinf
      obtain ⟨h1, rfl⟩ := cond_some (y := none) h
      simp only [Bool.and_eq_true, beq_iff_eq] at h1
      simp only [stepReq, Option.some.injEq, Prod.mk.injEq] at hs; obtain ⟨rfl, rfl, rfl⟩ := hs
      obtain ⟨h0, he⟩ := hob _ rfl
      exact ex_index ho hO (opnd_sound hE hg hG' hx) (opnd_sound hE hg hG' hi) ht hinf h1.1 h0 he (fun l e => by subst e; simp [AV.notTup] at h1)
    · rename_i elem j kk i ht hx hi
      split at h
      case h_2 => cases h
      rename_i inf hinf
      cases h
      unfold stepReq at hs
      simp only at hs
      split at hs
      case h_2 => cases hs
      rename_i e0 he
      split at hs
      · rename_i T k xs
        cases hk : inf.size == k
        · rw [hk] at hs; cases hs
        · rw [hk] at hs
          simp only [cond_true, Option.map_some, Option.some.injEq, Prod.mk.injEq] at hs; obtain ⟨rfl, rfl, rfl⟩ := hs
          obtain ⟨q1, q2⟩ := hob _ rfl
          exact ex_indexO ho hO (opnd_sound hE hg hG' hx) he (opnd_sound hE hg hG' hi) ht hinf (by simpa using hk) q1 q2
      · cases hs
    · rename_i n elem l off kk i e ht hx hi
      split at h
      case h_2 => cases h
      rename_i inf hinf
      cases h
      simp only [stepReq, Option.some.injEq, Prod.mk.injEq] at hs; obtain ⟨rfl, rfl, rfl⟩ := hs
      obtain ⟨q1, q2, q3⟩ := hob _ rfl
      exact ex_index_fp ho hO (opnd_sound hE hg hG' hx) (opnd_sound hE hg hG' hi) ht hinf q1 q2 q3
    · cases h
  · -- call
    rename_i x xs tys
    split at h
    case h_2 => cases h
    rename_i f fs cs as hx has
    have c1 := opnd_sound hE hg hG' hx
    have c2 := opnds_sound hE hg hG' has
    split at h
    · rename_i r'
      obtain ⟨h1, rfl⟩ := cond_some (y := none) h
      simp only [Bool.and_eq_true] at h1
      simp only [stepReq, Option.some.injEq, Prod.mk.injEq] at hs; obtain ⟨rfl, rfl, rfl⟩ := hs
      exact ex_call ho hO hG' c1 c2 h1.1 h1.2 (hob _ rfl)
    · rename_i r'
      obtain ⟨h1, rfl⟩ := cond_some (y := none) h
      simp only [Bool.and_eq_true] at h1
      simp only [stepReq, Option.some.injEq, Prod.mk.injEq] at hs; obtain ⟨rfl, rfl, rfl⟩ := hs
      exact ex_call' ho hO hG' c1 c2 (fun vs hv => concL_wkn _ _ hv) h1.1 h1.2 (hob _ rfl)
    · rename_i r' own2
      cases h
      simp only [stepReq, Option.some.injEq, Prod.mk.injEq] at hs; obtain ⟨rfl, rfl, rfl⟩ := hs
      exact ex_callO ho hO hG c1 c2 (hob _ rfl)
    · rename_i r'
      cases h
      simp only [stepReq] at hs
      cases hb : AV.closedL (AV.subL (frz1 own) (fs ++ as ++ cs)) && r'.plain
      · rw [hb] at hs; cases hs
      · rw [hb] at hs
        simp only [cond_true, Option.map_some, Option.some.injEq, Prod.mk.injEq] at hs; obtain ⟨rfl, rfl, rfl⟩ := hs
        simp only [Bool.and_eq_true] at hb
        exact ex_callB ho hO hG' c1 c2 hb.1 hb.2 (hob _ rfl)
    · rename_i r'
      cases h
      simp only [stepReq] at hs
      cases hb : AV.closedL (AV.wknL (AV.subL (frz1 own) (fs ++ as ++ cs))) && r'.plain
      · rw [hb] at hs; cases hs
      · rw [hb] at hs
        simp only [cond_true, Option.map_some, Option.some.injEq, Prod.mk.injEq] at hs; obtain ⟨rfl, rfl, rfl⟩ := hs
        simp only [Bool.and_eq_true] at hb
        exact ex_callB' ho hO hG' c1 c2 (fun γ' H' vs hv => concL_wkn _ _ hv) hb.1 hb.2 (hob _ rfl)
    · cases h
  · -- len
    rename_i xs ts
    split at h
    case h_2 => cases h
    rename_i x t hxs hts
    have e1 := toList_one hxs
    have e2 := toList_one hts
    subst e1 e2
    split at h
    · rename_i elem l ht hx
      cases h
      simp only [stepReq, Option.some.injEq, Prod.mk.injEq] at hs; obtain ⟨rfl, rfl, rfl⟩ := hs
      exact ex_len_sl ho hO (opnd_sound hE hg hG' hx) ht
    · rename_i elem ht hx
      cases h
      simp only [stepReq, Option.some.injEq, Prod.mk.injEq] at hs; obtain ⟨rfl, rfl, rfl⟩ := hs
      exact ex_len_nil ho hO (opnd_sound hE hg hG' hx) ht
    · rename_i elem i ht hx
      cases h
      unfold stepReq at hs
      simp only at hs
      split at hs
      case h_2 => cases hs
      rename_i e he
      split at hs
      · simp only [Option.map_some, Option.some.injEq, Prod.mk.injEq] at hs; obtain ⟨rfl, rfl, rfl⟩ := hs
        exact ex_len_row ho hO (opnd_sound hE hg hG' hx) he ht
      · cases hs
    · cases h
  · -- append
    rename_i xs ts
    split at h
    case h_2 => cases h
    rename_i s x t t' hxs hts
    have e1 := toList_two hxs
    have e2 := toList_two hts
    subst e1 e2
    cases htt : t == t'
    · rw [htt] at h; cases h
    rw [htt] at h; simp only [cond_true] at h
    have ht' : t = t' := by simpa using htt
    subst ht'
    split at h
    case h_2 => cases h
    rename_i elem i l ht hsx hx
    split at h
    case h_2 => cases h
    rename_i inf hinf
    split at h
    case h_2 => cases h
    rename_i z hz
    obtain ⟨hc, rfl⟩ := cond_some (y := none) h
    simp only [Bool.and_eq_true, beq_iff_eq] at hc
    unfold stepReq at hs
    simp only at hs
    split at hs
    case h_2 => cases hs
    rename_i e he
    split at hs
    · rename_i T k xs
      cases hq : (T == elem) && (inf.size == k)
      · rw [hq] at hs; cases hs
      · rw [hq] at hs
        simp only [Bool.and_eq_true, beq_iff_eq] at hq
        obtain ⟨rfl, rfl⟩ := hq
        simp only [cond_true] at hs
        split at hs
        · simp only [Option.map_some, Option.some.injEq, Prod.mk.injEq] at hs; obtain ⟨rfl, rfl, rfl⟩ := hs
          obtain ⟨q1, rfl⟩ := hob _ rfl
          exact ex_append ho hO (opnd_sound hE hg hG' hsx) he (opnd_sound hE hg hG' hx) ht hinf hz hc.1.1 rfl (Nat.le_of_ble_eq_true hc.1.2) (Nat.le_of_ble_eq_true hc.2) q1
        · simp only [Option.map_some, Option.some.injEq, Prod.mk.injEq] at hs; obtain ⟨rfl, rfl, rfl⟩ := hs
          exact ex_append ho hO (opnd_sound hE hg hG' hsx) he (opnd_sound hE hg hG' hx) ht hinf hz hc.1.1 rfl (Nat.le_of_ble_eq_true hc.1.2) (Nat.le_of_ble_eq_true hc.2) (hob _ rfl)
    · cases hs
  · -- delete
    rename_i xs ts
    split at h
    case h_2 => cases h
    rename_i x y t t' hxs hts
    have e1 := toList_two hxs
    have e2 := toList_two hts
    subst e1 e2
    split at h
    case h_2 => cases h
    rename_i kt et i key ks' vs' ht hx hy
    cases h
    unfold stepReq at hs
    simp only at hs
    split at hs
    case h_2 => cases hs
    rename_i e he
    split at hs
    · rename_i ks vs
      simp only [Option.map_some, Option.some.injEq, Prod.mk.injEq] at hs; obtain ⟨rfl, rfl, rfl⟩ := hs
      exact ex_delete ho hO (opnd_sound hE hg hG' hx) he (opnd_sound hE hg hG' hy) ht (hob _ rfl)
    · cases hs
  · -- min
    rename_i xs ts
    split at h
    case h_2 => cases h
    rename_i x y hxs
    split at h
    case h_2 => cases h
    rename_i k m k' n hx hy
    split at h
    case isFalse => cases h
    rename_i e; subst e
    cases h
    simp only [stepReq, Option.some.injEq, Prod.mk.injEq] at hs; obtain ⟨rfl, rfl, rfl⟩ := hs
    exact ex_minmax (mx := false) ho hO (toList_two hxs) (opnd_sound hE hg hG' hx) (opnd_sound hE hg hG' hy)
  · -- max
    rename_i xs ts
    split at h
    case h_2 => cases h
    rename_i x y hxs
    split at h
    case h_2 => cases h
    rename_i k m k' n hx hy
    split at h
    case isFalse => cases h
    rename_i e; subst e
    cases h
    simp only [stepReq, Option.some.injEq, Prod.mk.injEq] at hs; obtain ⟨rfl, rfl, rfl⟩ := hs
    exact ex_minmax (mx := true) ho hO (toList_two hxs) (opnd_sound hE hg hG' hx) (opnd_sound hE hg hG' hy)
  · cases h
end Go.Fw

