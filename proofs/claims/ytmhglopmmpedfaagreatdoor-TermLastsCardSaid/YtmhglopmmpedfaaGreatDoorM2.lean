/- A part of the following proof. The law TermLasts returns true at every input and leaves the input as it was. -/
import Derived.Test.YtmhglopmmpedfaaGreatDoorM1
import GoSem.Instr.RangeFunc
import Derived.Shelf.SlSortCmp.NoneTotal
import Derived.Shelf.SortG.Plain
import Derived.Shelf.SortG.SortNone
import Derived.ProofKit
import Derived.LaidMore
import Derived.LaidHandle
import Derived.Stop.Joined
import Derived.Test.YtmhglopmmpedfaaGreatDoorProg
import Derived.KernelRfl
import Derived.Shelf.SlLaysF0
import Derived.Shelf.SlLaysNS
set_option linter.unusedSimpArgs false
set_option linter.unusedVariables false
set_option linter.unnecessarySimpa false
set_option linter.all false
namespace Go.Fw
variable {P : Program} {B : Base} {γ : List Value} {H : HP} {own : List OE} {w : World} {a : Act} {G : GTab}

structure RS where
  ρ : Rho
  own : List OE
  log : Nat → Option Prop
def putR (ρ : Rho) (dst : Option Nat) (e : Option EV) : Rho := match dst with
  | none => ρ
  | some d => fun t => bif t == d then e else match ρ t with
    | some (.gd s b x) => bif s == d then none else some (.gd s b x)
    | r => r
def putL (log : Nat → Option Prop) (i : Nat) (p : Option Prop) : Nat → Option Prop := fun j => bif j == i then p else log j
def Req.quiet : Req → Bool
  | .val _ _ | .rd _ _ => true
  | _ => false
def goFin (orc : Orc) (v : AV) (ob : Option Prop) : Option (AV × Option Prop) := match orc with
  | .dec c => match v, ob with
    | .bool e, none => some (.bool c, some (e = c))
    | _, _ => none
  | .is n => match v, ob with
    | .int k e, none => some (.int k n, some (e = n))
    | _, _ => none
  | _ => some (v, ob)
def goOp (P : Program) (G : GTab) (o : Oper) (orc : Orc) (i : Nat) (S : RS) : Option RS :=
  match aop P G S.ρ none orc o.op with
  | some req => match stepReq S.own req with
    | some (own', v, ob) => match goFin orc v ob with
      | some (v', ob') => some ⟨putR S.ρ o.dst (some (.av v')), own', putL S.log i ob'⟩
      | none => none
    | none => none
  | none => none
def goMay (P : Program) (G : GTab) (o : Oper) (s : Nat) (want : Bool) (S : RS) : Option RS :=
  match aop P G S.ρ (some (s, want)) .no o.op with
  | some req => bif req.quiet then match stepReq S.own req with
      | some (_, v, none) => some ⟨putR S.ρ o.dst (some (.gd s want v)), S.own, S.log⟩
      | _ => none
    else none
  | none => none
def stepOp (P : Program) (G : GTab) (ops : Array Oper) (orc : Nat → Orc) (i : Nat) (S : RS) : Option RS :=
  match ops[i]? with
  | none => none
  | some o => match o.guard with
    | none => goOp P G o (orc i) i S
    | some (j, want) => match (ops[j]?).bind (·.dst) with
      | none => none
      | some s => match orc i with
        | .may => match S.ρ s with
          | some (.av (.bool _)) => goMay P G o s want S
          | _ => none
        | orc => match S.ρ s with
          | some (.av (.bool b)) => bif b == want then goOp P G o orc i S else some ⟨putR S.ρ o.dst (some (.av (.tup []))), S.own, S.log⟩
          | some (.av (.tup _)) => some ⟨putR S.ρ o.dst (some (.av (.tup []))), S.own, S.log⟩
          | _ => none
def RSat (B : Base) (n : Nat) (S : RS) (a : Act) (w : World) : Prop :=
  ∃ γ H, OwnOK B γ H S.own w ∧ EnvR γ H S.ρ a.tmps ∧ a.tmps.size = n ∧ a.defers = B.df
theorem put_size (a : Act) (dst : Option Nat) (v : Value) : (a.put dst v).tmps.size = a.tmps.size := by cases dst <;> simp [Act.put]
theorem put_defers (a : Act) (dst : Option Nat) (v : Value) : (a.put dst v).defers = a.defers := by cases dst <;> rfl
theorem put_get (a : Act) (d : Nat) (v : Value) (t : Nat) : (a.put (some d) v).tmps[t]? = if t = d then (if d < a.tmps.size then some v else none) else a.tmps[t]? := by
  simp only [Act.put]
  by_cases h : t = d
  · subst h
    by_cases hs : t < a.tmps.size <;> simp [hs]
  · rw [if_neg h, Array.getElem?_setIfInBounds, if_neg (Ne.symm h)]
theorem envR_put {ρ : Rho} {γ γ' : List Value} {H H' : HP} {dst : Option Nat} {v : Value} {e : Option EV} (hE : EnvR γ H ρ a.tmps) (hγ : Ext γ γ') (hH : HLe H H') (hd : ∀ d, dst = some d → d < a.tmps.size)
    (he : ∀ d x, dst = some d → e = some x → match x with
      | .av x => Conc γ' H' x v
      | .gd s b x => s ≠ d ∧ (a.tmps[s]? = some (.bool b) → Conc γ' H' x v)) : EnvR γ' H' (putR ρ dst e) (a.put dst v).tmps := by
  have old : ∀ (t : Nat) (e : EV), ρ t = some e → ∃ v, a.tmps[t]? = some v ∧ match e with
      | .av x => Conc γ' H' x v
      | .gd s b x => a.tmps[s]? = some (.bool b) → Conc γ' H' x v := by
    intro t e ht
    obtain ⟨u, hu, hc⟩ := hE t e ht
    cases e with
    | av x => exact ⟨u, hu, conc_mono hH hγ hc⟩
    | gd s b x => exact ⟨u, hu, fun hs => conc_mono hH hγ (hc hs)⟩
  cases dst with
  | none => exact old
  | some d =>
    intro t e' ht
    have hds := hd d rfl
    simp only [putR] at ht
    cases htd : (t == d)
    · rw [htd] at ht; simp only [cond_false] at ht
      have hne : t ≠ d := by simpa using htd
      split at ht
      · rename_i s b x hx
        cases hsd : (s == d)
        · rw [hsd] at ht; simp only [cond_false, Option.some.injEq] at ht; subst ht
          have hns : s ≠ d := by simpa using hsd
          obtain ⟨u, hu, hc⟩ := old t _ hx
          refine ⟨u, by rw [put_get, if_neg hne]; exact hu, fun hs => hc ?_⟩
          rw [put_get, if_neg hns] at hs; exact hs
        · rw [hsd] at ht; cases ht
      · rename_i hgd
        obtain ⟨u, hu, hc⟩ := old t _ ht
        refine ⟨u, by rw [put_get, if_neg hne]; exact hu, ?_⟩
        cases e' with
        | av x => exact hc
        | gd s b x => exact absurd ht (hgd s b x)
    · rw [htd] at ht; simp only [cond_true] at ht
      have hte : t = d := by simpa using htd
      subst hte
      refine ⟨v, by rw [put_get, if_pos rfl, if_pos hds], ?_⟩
      have := he t e' rfl ht
      cases e' with
      | av x => exact this
      | gd s b x =>
        refine fun hs => this.2 ?_
        rw [put_get, if_neg this.1] at hs; exact hs
theorem req_quiet {own own' : List OE} {req : Req} {v : AV} {ob : Option Prop} (hq : req.quiet = true) (h : stepReq own req = some (own', v, ob)) : own' = own := by
  cases req <;> simp only [Req.quiet, Bool.false_eq_true] at hq
  · simp only [stepReq, Option.some.injEq, Prod.mk.injEq] at h; exact h.1.symm
  · unfold stepReq at h; simp only at h; split at h
    · rename_i i f _ e he
      cases hf : f e with
      | none => rw [hf] at h; cases h
      | some x => rw [hf] at h; cases h; rfl
    · cases h
def dstsIn (n : Nat) (ops : Array Oper) : Bool := ops.toList.all fun o => match o.dst with
  | some d => Nat.blt d n
  | none => true
theorem dstsIn_spec {n : Nat} {ops : Array Oper} (h : dstsIn n ops = true) {i : Nat} {o : Oper} (ho : ops[i]? = some o) {d : Nat} (hd : o.dst = some d) : d < n := by
  unfold dstsIn at h
  rw [List.all_eq_true] at h
  have := h o (by rw [← Array.mem_def]; exact Array.mem_of_getElem? ho)
  rw [hd] at this
  simpa [Nat.blt_eq] using this
theorem goOp_sound {T : List Frame → Machine → Prop} {b : Frame} {k : List Item} {ops : Array Oper} {i : Nat} {rest : List Nat} {n : Nat} {S S' : RS} {o : Oper} {orc : Orc} (hG : GOK G B.H) (hS : RSat B n S a w) (ho : ops[i]? = some o)
    (hd : ∀ d, o.dst = some d → d < n) (hw : Region.wanted o (yielded ops a.tmps) = true) (h : goOp P G o orc i S = some S') (hob : ∀ p, S'.log i = some p → p) (hk : ∀ a' w', RSat B n S' a' w' → Runs P T b (.inRegion ops rest :: k) a' w') :
    Runs P T b (.inRegion ops (i :: rest) :: k) a w := by
  obtain ⟨γ, H, hO, hE, hn, hdf⟩ := hS
  unfold goOp at h
  split at h
  case h_2 => cases h
  rename_i req hreq
  split at h
  case h_2 => cases h
  rename_i own' v ob hst
  have hlog : ∀ p, (putL S.log i p) i = p := fun p => by simp [putL]
  split at h
  case h_2 => cases h
  rename_i v' ob' hfin
  cases h
  have hob' : ∀ p, ob' = some p → p := fun p hp => hob p (by show putL S.log i ob' i = some p; rw [hlog]; exact hp)
  have hv : v = v' ∧ ∀ p, ob = some p → p := by
    unfold goFin at hfin
    split at hfin
    · split at hfin
      · cases hfin
        exact ⟨congrArg AV.bool (hob' _ rfl), fun p hp => by cases hp⟩
      · cases hfin
    · split at hfin
      · cases hfin
        exact ⟨congrArg (AV.int _) (hob' _ rfl), fun p hp => by cases hp⟩
      · cases hfin
    · cases hfin; exact ⟨rfl, hob'⟩
  obtain ⟨rfl, hob''⟩ := hv
  refine runs_exec ho hw (aop_sound rfl hO hE (fun s b h => by cases h) hG hreq hst hob'') ?_
  rintro u w' ⟨γ', H', hγ, hH, hO', hc⟩
  refine hk _ _ ⟨γ', H', hO', envR_put hE hγ hH (fun d hd' => by rw [hn]; exact hd d hd') (fun d x hd' hx => ?_), by rw [put_size]; exact hn, by rw [put_defers]; exact hdf⟩
  cases hx; exact hc
theorem yielded_of {ops : Array Oper} {j s : Nat} {x : Bool} (hj : (ops[j]?).bind (·.dst) = some s) (hv : a.tmps[s]? = some (.bool x)) : yielded ops a.tmps j = some x := by
  simp [yielded, hj, hv]
theorem stepOp_sound {T : List Frame → Machine → Prop} {b : Frame} {k : List Item} {ops : Array Oper} {i : Nat} {rest : List Nat} {n : Nat} {S S' : RS} {orc : Nat → Orc} (hG : GOK G B.H) (hS : RSat B n S a w) (hd : dstsIn n ops = true)
    (h : stepOp P G ops orc i S = some S') (hob : ∀ p, S'.log i = some p → S.log i = none → p) (hlog : S.log i = none) (hk : ∀ a' w', RSat B n S' a' w' → Runs P T b (.inRegion ops rest :: k) a' w') :
    Runs P T b (.inRegion ops (i :: rest) :: k) a w := by
  unfold stepOp at h
  split at h
  case h_1 => cases h
  rename_i o ho
  have hdo : ∀ d, o.dst = some d → d < n := fun d hd' => dstsIn_spec hd ho hd'
  split at h
  · rename_i hgd
    exact goOp_sound hG hS ho hdo (by simp [Region.wanted, hgd]) h (fun p hp => hob p hp hlog) hk
  · rename_i j want hgd
    split at h
    case h_1 => cases h
    rename_i s hs
    split at h
    · -- not decided
      split at h
      case h_2 => cases h
      rename_i x hx
      obtain ⟨γ, H, hO, hE, hn, hdf⟩ := hS
      obtain ⟨u, hu, hc⟩ := hE s _ hx
      have hu' : u = .bool x := conc_bool.1 hc
      subst hu'
      have hy := yielded_of hs hu
      unfold goMay at h
      split at h
      case h_2 => cases h
      rename_i req hreq
      obtain ⟨hq, h⟩ := cond_opt h
      split at h
      case h_2 => cases h
      rename_i own' v hst
      cases h
      have hown := req_quiet hq hst
      subst hown
      have hsd : ∀ d, o.dst = some d → s ≠ d → True := fun _ _ _ => trivial
      by_cases hxw : x = want
      · subst hxw
        refine runs_exec ho (by simp [Region.wanted, hgd, hy]) (aop_sound rfl hO hE (fun s' b' h' => by cases h'; exact hu) hG hreq hst (fun p hp => by cases hp)) ?_
        rintro u' w' ⟨γ', H', hγ, hH, hO', hc'⟩
        refine hk _ _ ⟨γ', H', hO', ?_, by rw [put_size]; exact hn, by rw [put_defers]; exact hdf⟩
        by_cases hds : o.dst = some s
        · -- the operation writes its own guard: then nothing is known of the slot
          exact (by
            intro t e' ht
            have hbase := envR_put (e := none) (v := u') hE hγ hH (fun d hd' => by rw [hn]; exact hdo d hd') (fun d x _ hx => by cases hx)
            rw [hds] at ht hbase ⊢
            simp only [putR] at ht
            cases hts : (t == s)
            · refine hbase t e' ?_
              simp only [putR, hts, cond_false] at ht ⊢; exact ht
            · rw [hts] at ht; simp only [cond_true, Option.some.injEq] at ht; subst ht
              have : t = s := by simpa using hts
              subst this
              exact ⟨u', by rw [put_get, if_pos rfl, if_pos (by rw [hn]; exact hdo t hds)], fun _ => hc'⟩)
        · exact envR_put hE hγ hH (fun d hd' => by rw [hn]; exact hdo d hd') (fun d x hd' hx => by cases hx; exact ⟨fun e => hds (by rw [e]; exact hd'), fun _ => hc'⟩)
      · refine runs_op_skip ho (by simp [Region.wanted, hgd, hy, hxw]) ?_
        refine hk _ _ ⟨γ, H, hO, ?_, by rw [put_size]; exact hn, by rw [put_defers]; exact hdf⟩
        by_cases hds : o.dst = some s
        · intro t e' ht
          have hbase := envR_put (e := none) (v := undef) hE (Ext.refl γ) (HLe.refl H) (fun d hd' => by rw [hn]; exact hdo d hd') (fun d x _ hx => by cases hx)
          rw [hds] at ht hbase ⊢
          simp only [putR] at ht
          cases hts : (t == s)
          · refine hbase t e' ?_
            simp only [putR, hts, cond_false] at ht ⊢; exact ht
          · rw [hts] at ht; simp only [cond_true, Option.some.injEq] at ht; subst ht
            have : t = s := by simpa using hts
            subst this
            refine ⟨undef, by rw [put_get, if_pos rfl, if_pos (by rw [hn]; exact hdo t hds)], fun hs' => ?_⟩
            rw [put_get, if_pos rfl, if_pos (by rw [hn]; exact hdo t hds)] at hs'
            cases hs'
        · refine envR_put hE (Ext.refl γ) (HLe.refl H) (fun d hd' => by rw [hn]; exact hdo d hd') (fun d x' hd' hx' => ?_)
          cases hx'
          refine ⟨fun e => hds (by rw [e]; exact hd'), fun hb => ?_⟩
          rw [hu] at hb; cases hb; exact absurd rfl hxw
    · have skp : Region.wanted o (yielded ops a.tmps) = false → S' = ⟨putR S.ρ o.dst (some (.av (.tup []))), S.own, S.log⟩ → Runs P T b (.inRegion ops (i :: rest) :: k) a w := by
        intro hw hs'
        subst hs'
        obtain ⟨γ, H, hO, hE, hn, hdf⟩ := hS
        refine runs_op_skip ho hw ?_
        exact hk _ _ ⟨γ, H, hO, envR_put hE (Ext.refl γ) (HLe.refl H) (fun d hd' => by rw [hn]; exact hdo d hd') (fun d x _ hx => by cases hx; exact conc_tup.2 ⟨[], rfl, rfl⟩), by rw [put_size]; exact hn, by rw [put_defers]; exact hdf⟩
      split at h
      case h_3 => cases h
      case h_2 =>
        rename_i l hx
        simp only [Option.some.injEq] at h
        obtain ⟨γ, H, hO, hE, hn, hdf⟩ := hS
        obtain ⟨u, hu, hc⟩ := hE s _ hx
        obtain ⟨us, rfl, _⟩ := conc_tup.1 hc
        exact skp (by simp [Region.wanted, hgd, yielded, hs, hu]) h.symm
      rename_i x hx
      have hS' := hS
      obtain ⟨γ, H, hO, hE, hn, hdf⟩ := hS'
      obtain ⟨u, hu, hc⟩ := hE s _ hx
      have hu' : u = .bool x := conc_bool.1 hc
      subst hu'
      have hy := yielded_of hs hu
      cases hxw : (x == want)
      · rw [hxw] at h; simp only [cond_false, Option.some.injEq] at h
        have hne : x ≠ want := by simpa using hxw
        exact skp (by simp [Region.wanted, hgd, hy, hne]) h.symm
      · rw [hxw] at h; simp only [cond_true] at h
        have he : x = want := by simpa using hxw
        exact goOp_sound hG hS ho hdo (by simp [Region.wanted, hgd, hy, he]) h (fun p hp => hob p hp hlog) hk
def evalOps (P : Program) (G : GTab) (ops : Array Oper) (orc : Nat → Orc) : List Nat → RS → Option RS
  | [], S => some S
  | i :: l, S => match stepOp P G ops orc i S with
    | some S' => evalOps P G ops orc l S'
    | none => none
theorem stepOp_log {ops : Array Oper} {orc : Nat → Orc} {i j : Nat} {S S' : RS} (h : stepOp P G ops orc i S = some S') (hj : j ≠ i) : S'.log j = S.log j := by
  have hl : ∀ p, putL S.log i p j = S.log j := fun p => by
    have : (j == i) = false := by simpa using hj
    simp [putL, this]
  have hgo : ∀ {o : Oper} {orc : Orc}, goOp P G o orc i S = some S' → S'.log j = S.log j := by
    intro o orc h
    unfold goOp at h
    split at h
    case h_2 => cases h
    split at h
    case h_2 => cases h
    split at h
    · cases h; exact hl _
    · cases h
  unfold stepOp at h
  split at h
  · cases h
  · split at h
    · exact hgo h
    · split at h
      · cases h
      · split at h
        · split at h
          · unfold goMay at h
            split at h
            case h_2 => cases h
            obtain ⟨_, h⟩ := cond_opt h
            split at h
            · cases h; rfl
            · cases h
          · cases h
        · split at h
          · rename_i x _
            generalize (x == _) = c at h
            cases c
            · simp only [cond_false, Option.some.injEq] at h; subst h; rfl
            · exact hgo h
          · cases h; rfl
          · cases h
theorem evalOps_log {ops : Array Oper} {orc : Nat → Orc} {j : Nat} : ∀ {l : List Nat} {S S' : RS}, evalOps P G ops orc l S = some S' → j ∉ l → S'.log j = S.log j
  | [], S, S', h, _ => by cases h; rfl
  | i :: l, S, S', h, hj => by
    unfold evalOps at h
    split at h
    · rename_i S1 h1
      simp only [List.mem_cons, not_or] at hj
      rw [evalOps_log h hj.2, stepOp_log h1 hj.1]
    · cases h
theorem evalOps_sound {T : List Frame → Machine → Prop} {b : Frame} {k : List Item} {ops : Array Oper} {n : Nat} {orc : Nat → Orc} (hG : GOK G B.H) (hd : dstsIn n ops = true) {rest : List Nat} : ∀ {l : List Nat} {S S' : RS} {a : Act} {w : World},
    RSat B n S a w → evalOps P G ops orc l S = some S' → l.Nodup → (∀ i ∈ l, S.log i = none) → (∀ i ∈ l, ∀ p, S'.log i = some p → p) → (∀ a' w', RSat B n S' a' w' → Runs P T b (.inRegion ops rest :: k) a' w') →
    Runs P T b (.inRegion ops (l ++ rest) :: k) a w
  | [], S, S', a, w, hS, h, _, _, _, hk => by cases h; exact hk a w hS
  | i :: l, S, S', a, w, hS, h, hnd, hlog, hob, hk => by
    unfold evalOps at h
    split at h
    · rename_i S1 h1
      have hi := (List.nodup_cons.1 hnd)
      refine stepOp_sound hG hS hd h1 (fun p hp _ => hob i (by simp) p (by rw [evalOps_log h hi.1]; exact hp)) (hlog i (by simp)) (fun a' w' hS' => ?_)
      refine evalOps_sound hG hd hS' h hi.2 (fun j hj => ?_) (fun j hj => hob j (by simp [hj])) hk
      rw [stepOp_log h1 (fun e => hi.1 (e ▸ hj))]; exact hlog j (by simp [hj])
    · cases h
def rsOf (S : AS) : RS := ⟨fun t => (S.env.lookup t).map .av, S.own, fun _ => none⟩
def envOf (ρ : Rho) : List Nat → Option (List (Nat × AV))
  | [] => some []
  | t :: ts => match ρ t, envOf ρ ts with
    | some (.av x), some r => some ((t, x) :: r)
    | _, _ => none
theorem lookup_mem {env : List (Nat × AV)} {t : Nat} {x : AV} (h : env.lookup t = some x) : (t, x) ∈ env := by
  induction env with
  | nil => simp at h
  | cons p env ih =>
    obtain ⟨m, c⟩ := p
    simp only [List.lookup] at h
    split at h
    · rename_i hb; simp only [beq_iff_eq] at hb; cases h; subst hb; simp
    · exact List.mem_cons_of_mem _ (ih h)
theorem rsat_of {S : AS} (h : Sat B S a w) : RSat B S.n (rsOf S) a w := by
  obtain ⟨γ, H, hO, hE, hn, hd⟩ := h
  refine ⟨γ, H, hO, fun t e ht => ?_, hn, hd⟩
  simp only [rsOf] at ht
  cases hl : S.env.lookup t with
  | none => rw [hl] at ht; cases ht
  | some x =>
    rw [hl] at ht; cases ht
    exact hE _ (lookup_mem hl)
theorem sat_of {n : Nat} {R : RS} {ts : List Nat} {env : List (Nat × AV)} (h : RSat B n R a w) (he : envOf R.ρ ts = some env) : Sat B ⟨n, env, R.own⟩ a w := by
  obtain ⟨γ, H, hO, hE, hn, hd⟩ := h
  refine ⟨γ, H, hO, ?_, hn, hd⟩
  clear hO hn hd
  induction ts generalizing env with
  | nil => simp only [envOf, Option.some.injEq] at he; subst he; intro p hp; simp at hp
  | cons t ts ih =>
    unfold envOf at he
    split at he
    · rename_i x r hx hr
      cases he
      intro p hp
      rcases List.mem_cons.1 hp with rfl | hp
      · exact hE t _ hx
      · exact ih hr p hp
    · cases he
def AllP : List Prop → Prop
  | [] => True
  | [p] => p
  | p :: ps => p ∧ AllP ps
theorem allP_mem : ∀ {l : List Prop}, AllP l → ∀ p ∈ l, p
  | [], _, p, hp => by simp at hp
  | [q], h, p, hp => by
    rcases List.mem_cons.1 hp with rfl | hp
    · exact h
    · cases hp
  | q :: r :: l, h, p, hp => by
    rcases List.mem_cons.1 hp with rfl | hp
    · exact h.1
    · exact allP_mem h.2 p hp
def evReg (P : Program) (G : GTab) (ops : Array Oper) (orc : List (Nat × Orc)) (l : List Nat) (ts : List Nat) (S : AS) : Option (List (Nat × AV) × List OE × List Prop) :=
  match evalOps P G ops (fun i => (orc.lookup i).getD .no) l (rsOf S) with
  | some R => match envOf R.ρ ts with
    | some env => bif dstsIn S.n ops then some (env, R.own, l.filterMap R.log) else none
    | none => none
  | none => none
theorem evReg_sound {T : List Frame → Machine → Prop} {b : Frame} {k : List Item} {ops : Array Oper} {orc : List (Nat × Orc)} {l ts : List Nat} {S : AS} {env : List (Nat × AV)} {own : List OE} {obs : List Prop} {rest : List Nat}
    (hG : GOK G B.H) (hS : Sat B S a w) (h : evReg P G ops orc l ts S = some (env, own, obs)) (hl : l.Nodup) (ho : AllP obs) (hk : ∀ a' w', Sat B ⟨S.n, env, own⟩ a' w' → Runs P T b (.inRegion ops rest :: k) a' w') :
    Runs P T b (.inRegion ops (l ++ rest) :: k) a w := by
  unfold evReg at h
  split at h
  case h_2 => cases h
  rename_i R hR
  split at h
  case h_2 => cases h
  rename_i env' he
  obtain ⟨hd, h⟩ := cond_some (y := none) h
  cases h
  exact evalOps_sound hG hd (rsat_of hS) hR hl (fun _ _ => rfl) (fun i hi p hp => allP_mem ho p (List.mem_filterMap.2 ⟨i, hi, hp⟩)) (fun a' w' hS' => hk a' w' (sat_of hS' he))
theorem region {T : List Frame → Machine → Prop} {b : Frame} {k : List Item} {id : Nat} {ops : Array Oper} {S : AS} (orc : List (Nat × Orc)) (ts : List Nat) {env : List (Nat × AV)} {own : List OE} {obs : List Prop}
    (hG : GOK G B.H) (hS : Sat B S a w) (h : evReg P G ops orc (List.range ops.size) ts S = some (env, own, obs)) (ho : AllP obs) (hk : ∀ a' w', Sat B ⟨S.n, env, own⟩ a' w' → Runs P T b k a' w') :
    Runs P T b (.code (.region id ops false) :: k) a w := by
  refine runs_region ?_
  have := evReg_sound (T := T) (b := b) (k := k) (rest := []) hG hS h List.nodup_range ho (fun a' w' hS' => runs_region_end (hk a' w' hS'))
  rwa [List.append_nil] at this
theorem sat_bool {S : AS} {t : Nat} {c : Bool} (hS : Sat B S a w) (h : S.env.lookup t = some (.bool c)) : a.eval (.tmp t) = .bool c := by
  obtain ⟨γ, H, _, hE, _, _⟩ := hS
  obtain ⟨v, hv, hc⟩ := hE _ (lookup_mem h)
  have := conc_bool.1 hc
  subst this
  simp [Act.eval, Array.getD_eq_getD_getElem?, hv]
theorem cond_yes {T : List Frame → Machine → Prop} {b : Frame} {k : List Item} {t : Nat} {x y : Code} {S : AS} {c : Bool} (hS : Sat B S a w) (h : S.env.lookup t = some (.bool c)) (hc : c = true) (hk : Runs P T b (.code x :: k) a w) :
    Runs P T b (.code (.cond (.tmp t) x y) :: k) a w := by
  subst hc; exact runs_cond (sat_bool hS h) hk
theorem cond_no {T : List Frame → Machine → Prop} {b : Frame} {k : List Item} {t : Nat} {x y : Code} {S : AS} {c : Bool} (hS : Sat B S a w) (h : S.env.lookup t = some (.bool c)) (hc : c = false) (hk : Runs P T b (.code y :: k) a w) :
    Runs P T b (.code (.cond (.tmp t) x y) :: k) a w := by
  subst hc; exact runs_cond (sat_bool hS h) hk
def resAV (P : Program) (S : AS) : ResultVar → Option AV
  | .tmp t => S.env.lookup t
  | .cell t T => match S.env.lookup t with
    | some (.box i off) => match S.own[i]? with
      | some (.box _ _ cs) => loadAV P T cs off
      | _ => none
    | _ => none
def resAVs (P : Program) (S : AS) : List ResultVar → Option (List AV)
  | [] => some []
  | x :: xs => match resAV P S x, resAVs P S xs with
    | some v, some r => some (v :: r)
    | _, _ => none
def retAV (P : Program) (S : AS) (rs : List ResultVar) : Option AV := match resAVs P S rs with
  | some [x] => some x
  | some l => some (.tup l)
  | none => none
abbrev RetT (P : Program) (f : FuncId) (B : Base) (r : AV) : List Frame → Machine → Prop := Leaves P f (RetOK B.w B.H r)
theorem resAV_run {S : AS} {x : ResultVar} {v : AV} (hO : OwnOK B γ H S.own w) (hE : EnvOK γ H S.env a.tmps) (h : resAV P S x = some v) :
    ∃ u, (match x with
      | .tmp t => (pure (a.tmps.getD t undef) : Sem Value)
      | .cell t T => do loadVar T (← asAddr (a.tmps.getD t undef))).run P w = .ok u w ∧ Conc γ H v u := by
  cases x with
  | tmp t =>
    obtain ⟨u, hu, hc⟩ := hE _ (lookup_mem h)
    exact ⟨u, by simp [Array.getD_eq_getD_getElem?, hu], hc⟩
  | cell t T =>
    unfold resAV at h
    split at h
    case h_1 => rename_i e; cases e
    rename_i t' T' e; cases e
    split at h
    case h_2 => cases h
    rename_i i off hl
    split at h
    case h_2 => cases h
    rename_i h0 T0 cs hi
    obtain ⟨u, hu, hc⟩ := hE _ (lookup_mem hl)
    simp only [Conc] at hc
    obtain ⟨b, hg, rfl⟩ := hc
    obtain ⟨b', vs, hg', hb, hl', _⟩ := hO.ent _ _ hi
    rw [hg] at hg'; cases hg'
    obtain ⟨v', hr, hc⟩ := run_loadAV (w := w) (o := 0) h hb hl' (fun j hj => by simp)
    rw [Nat.zero_add] at hr
    exact ⟨v', by simp [Array.getD_eq_getD_getElem?, hu, asAddr, hr], hc⟩
theorem resAVs_run {S : AS} (hO : OwnOK B γ H S.own w) (hE : EnvOK γ H S.env a.tmps) : ∀ {xs : List ResultVar} {l : List AV}, resAVs P S xs = some l →
    ∃ us : List Value, (xs.mapM (m := Sem) fun
      | .tmp t => pure (a.tmps.getD t undef)
      | .cell t T => do loadVar T (← asAddr (a.tmps.getD t undef))).run P w = .ok us w ∧ ConcL γ H l us
  | [], l, h => by simp only [resAVs, Option.some.injEq] at h; subst h; exact ⟨[], rfl, rfl⟩
  | x :: xs, l, h => by
    unfold resAVs at h
    split at h
    · rename_i v r hv hr
      cases h
      obtain ⟨u, hu, hc⟩ := resAV_run hO hE hv
      obtain ⟨us, hus, hcs⟩ := resAVs_run hO hE hr
      refine ⟨u :: us, ?_, u, us, rfl, hc, hcs⟩
      simp only [List.mapM_cons, Sem.run_bind]
      have : (match x with
        | .tmp t => (pure (a.tmps.getD t undef) : Sem Value)
        | .cell t T => do loadVar T (← asAddr (a.tmps.getD t undef))).run P w = .ok u w := hu
      rw [this]
      simp only [Result.andThen_ok, hus, Sem.run_pure]
    · cases h
theorem results_run {S : AS} {fn : Func} {r : AV} (hO : OwnOK B γ H S.own w) (hE : EnvOK γ H S.env a.tmps) (h : retAV P S fn.results.toList = some r) : ∃ v, (results fn a.tmps).run P w = .ok v w ∧ Conc γ H r v := by
  unfold retAV at h
  have key : ∀ l, resAVs P S fn.results.toList = some l → ∃ us : List Value, (results fn a.tmps).run P w = .ok (if h : us.length = 1 then us[0] else .tuple ⟨us⟩) w ∧ ConcL γ H l us := by
    intro l hl
    obtain ⟨us, hus, hcs⟩ := resAVs_run hO hE hl
    refine ⟨us, ?_, hcs⟩
    simp only [results, Sem.run_bind]
    rw [Array.mapM_eq_mapM_toList]
    simp only [Sem.run_map]
    have e : (fn.results.toList.mapM (m := Sem) fun x => match x with
      | .tmp t => pure (a.tmps.getD t undef)
      | .cell t T => do loadVar T (← asAddr (a.tmps.getD t undef))).run P w = .ok us w := hus
    erw [e]
    simp only [Result.andThen_ok, Sem.run_pure, List.size_toArray, List.getElem_toArray]
  split at h
  · rename_i x hx
    cases h
    obtain ⟨us, hr, hc⟩ := key _ hx
    obtain ⟨v, vs', rfl, hv, hvs⟩ := hc
    have : vs' = [] := hvs
    subst this
    exact ⟨v, by rw [hr]; simp, hv⟩
  · rename_i l hne hx
    cases h
    obtain ⟨us, hr, hc⟩ := key _ hx
    have hlen := concL_length hc
    refine ⟨.tuple ⟨us⟩, ?_, conc_tup.2 ⟨us, rfl, hc⟩⟩
    rw [hr, dif_neg]
    intro h1
    rw [h1] at hlen
    match l, hlen, hne with
    | [x], _, hne => exact hne x rfl
  · cases h
def zipFrom : Nat → List AV → List (Nat × AV)
  | _, [] => []
  | i, x :: xs => (i, x) :: zipFrom (i + 1) xs
abbrev frameOf (f : FuncId) : Frame := { (default : Frame) with fn := f, kind := .normal, roundOf := none }
theorem zipFrom_env {vs : List Value} {H : HP} {args : List AV} (h : ConcL [] H args vs) (tmps : Array Value) (pre : List Value) (post : List Value) (ht : tmps.toList = pre ++ vs ++ post) : EnvOK [] H (zipFrom pre.length args) tmps := by
  induction args generalizing vs pre with
  | nil => intro p hp; simp [zipFrom] at hp
  | cons x xs ih =>
    obtain ⟨v, vs', rfl, hv, h'⟩ := h
    intro p hp
    simp only [zipFrom] at hp
    rcases List.mem_cons.1 hp with rfl | hp
    · refine ⟨v, ?_, hv⟩
      rw [← Array.getElem?_toList, ht]
      simp
    · exact ih h' (pre ++ [v]) (by rw [ht]; simp) p (by simpa using hp)
theorem callA_of {f : FuncId} {fn : Func} {c : Code} {args : List AV} {r : AV} (hf : P.funcs[f]? = some fn) (hc : fn.body = some c) (hn : fn.name ≠ "runtime.NumGoroutine") (hle : Nat.ble args.length fn.ntmps = true)
    (h : ∀ (B : Base) (a : Act), B.γ = [] → B.df = [] → GOK G B.H → Sat B ⟨fn.ntmps, zipFrom 0 args, []⟩ a B.w → Runs P (RetT P f B r) (frameOf f) [.code c] a B.w) : CallA P G f args r := by
  refine ⟨⟨fn, hf, by rw [hc]; rfl, hn⟩, fun wc H0 vs hsub hG hargs => ?_⟩
  have hlen := concL_length hargs
  have hle' := Nat.le_of_ble_eq_true hle
  refine calls_of_runs hf hc (h ⟨wc, H0, [], []⟩ _ rfl rfl hG ?_)
  refine ⟨[], H0, ⟨rfl, rfl, Fwd.refl _, Nat.le_refl _, fun b hb _ => rfl, fun b o h => h, fun b o h _ => h, hsub, rfl, fun i e h => by simp at h, fun i e v b h => by simp at h, fun i e v b h => by simp at h, fun i j e e' v v' b _ h => by simp at h⟩, ?_, ?_, rfl⟩
  · exact zipFrom_env hargs _ [] (List.replicate (fn.ntmps - vs.length) undef) (by simp)
  · simp; omega
end Go.Fw

namespace Go.Fw
variable {P : Program} {B : Base} {w : World} {a : Act} {G : GTab}

def tmpsOf (xs : List Operand) : List Nat := xs.filterMap fun
  | .tmp t => some t
  | _ => none
def readsOf : Op → List Nat
  | .move x | .assign x | .box _ x | .load _ x | .nilCheck x | .unOp _ _ x | .convert _ _ x | .fieldAddr _ x _ | .field _ x _ | .extract x _ => tmpsOf [x]
  | .pick c x y => tmpsOf [c, x, y]
  | .build _ parts | .buildSlice _ _ parts => tmpsOf (parts.toList.map (·.2))
  | .store _ x y | .binOp _ _ x y _ | .indexAddr _ x y => tmpsOf [x, y]
  | .makeFunc _ xs ys => tmpsOf (xs.toList ++ ys.toList)
  | .lookup _ x y _ => tmpsOf [x, y]
  | .mapUpdate _ x y z => tmpsOf [x, y, z]
  | .range _ x | .entry x => tmpsOf [x]
  | .slice _ x lo hi _ => tmpsOf (x :: (lo.toList ++ hi.toList))
  | .call { callee := .value x, args := xs, .. } => tmpsOf (x :: xs.toList)
  | .call { callee := .builtin _, args := xs, .. } => tmpsOf xs.toList
  | _ => []
theorem look_congr {ρ ρ' : Rho} {g : Option (Nat × Bool)} {t : Nat} (h : ρ t = ρ' t) : look ρ g t = look ρ' g t := by unfold look; rw [h]
theorem opnd_congr {ρ ρ' : Rho} {g : Option (Nat × Bool)} {x : Operand} (h : ∀ t ∈ tmpsOf [x], ρ t = ρ' t) : opnd G ρ g x = opnd G ρ' g x := by
  cases x <;> first | rfl | skip
  rename_i t
  exact look_congr (h t (by simp [tmpsOf]))
theorem tmpsOf_sub {x : Operand} {xs : List Operand} (hx : x ∈ xs) : ∀ t ∈ tmpsOf [x], t ∈ tmpsOf xs := by
  intro t ht
  simp only [tmpsOf, List.mem_filterMap] at ht ⊢
  obtain ⟨y, hy, h⟩ := ht
  simp at hy; subst hy
  exact ⟨_, hx, h⟩
theorem opnds_congr {ρ ρ' : Rho} {g : Option (Nat × Bool)} : ∀ {xs : List Operand}, (∀ t ∈ tmpsOf xs, ρ t = ρ' t) → opnds G ρ g xs = opnds G ρ' g xs
  | [], _ => rfl
  | x :: xs, h => by
    unfold opnds
    rw [opnd_congr (fun t ht => h t (tmpsOf_sub (by simp) t ht)), opnds_congr (fun t ht => h t ?_)]
    simp only [tmpsOf, List.mem_filterMap] at ht ⊢
    obtain ⟨y, hy, e⟩ := ht
    exact ⟨y, by simp [hy], e⟩
theorem parts_congr {ρ ρ' : Rho} {g : Option (Nat × Bool)} : ∀ {ps : List (Nat × Operand)}, (∀ t ∈ tmpsOf (ps.map (·.2)), ρ t = ρ' t) → partsAV G ρ g ps = partsAV G ρ' g ps
  | [], _ => rfl
  | (i, x) :: ps, h => by
    unfold partsAV
    rw [opnd_congr (fun t ht => h t (tmpsOf_sub (by simp) t ht)), parts_congr (fun t ht => h t ?_)]
    simp only [tmpsOf, List.mem_filterMap] at ht ⊢
    obtain ⟨y, hy, e⟩ := ht
    exact ⟨y, by simp only [List.map_cons, List.mem_cons]; exact .inr hy, e⟩
theorem optIx_congr {ρ ρ' : Rho} {g : Option (Nat × Bool)} {x : Option Operand} (h : ∀ t ∈ tmpsOf x.toList, ρ t = ρ' t) : optIx G ρ g x = optIx G ρ' g x := by
  cases x with
  | none => rfl
  | some x =>
    have e : opnd G ρ g x = opnd G ρ' g x := opnd_congr (fun t ht => h t (by simpa using ht))
    unfold optIx; simp only [e]
theorem aop_congr {ρ ρ' : Rho} {g : Option (Nat × Bool)} {orc : Orc} {op : Op} (h : ∀ t ∈ readsOf op, ρ t = ρ' t) : aop P G ρ g orc op = aop P G ρ' g orc op := by
  have one : ∀ {g : Option (Nat × Bool)} {x : Operand} {xs : List Operand}, x ∈ xs → (∀ t ∈ tmpsOf xs, ρ t = ρ' t) → opnd G ρ g x = opnd G ρ' g x := fun hx h => opnd_congr (fun t ht => h t (tmpsOf_sub hx t ht))
  cases op with
  | call c =>
    obtain ⟨callee, args, tys⟩ := c
    cases callee with
    | value x =>
      simp only [readsOf] at h
      have h1 : opnds G ρ g args.toList = opnds G ρ' g args.toList := opnds_congr (fun t ht => h t (by
        simp only [tmpsOf, List.mem_filterMap] at ht ⊢
        obtain ⟨y, hy, e⟩ := ht
        exact ⟨y, by simp only [List.mem_cons]; exact .inr hy, e⟩))
      have h2 : opnd G ρ g x = opnd G ρ' g x := one (by simp) h
      simp only [aop, h1, h2]
    | invoke x m => rfl
    | builtin b =>
      simp only [readsOf] at h
      have h1 : ∀ x ∈ args.toList, opnd G ρ g x = opnd G ρ' g x := fun x hx => one hx h
      cases b <;> first
        | rfl
        | (simp only [aop]
           split
           · rename_i x t hxs hts
             rw [h1 x (by rw [hxs]; simp)]
           · rfl)
        | (simp only [aop]
           split
           · rename_i x y _ _ hxs hts
             rw [h1 x (by rw [hxs]; simp), h1 y (by rw [hxs]; simp)]
           · rfl)
        | (simp only [aop]
           split
           · rename_i x y hxs
             rw [h1 x (by rw [hxs]; simp), h1 y (by rw [hxs]; simp)]
           · rfl)
  | pick c x y =>
    simp only [readsOf] at h
    have e : ∀ g z, z ∈ [c, x, y] → opnd G ρ g z = opnd G ρ' g z := fun g z hz => one hz h
    simp only [aop, e _ c (by simp), e _ x (by simp), e _ y (by simp)]
  | build t parts => simp only [readsOf] at h; simp only [aop, parts_congr (G := G) (g := g) h]
  | buildSlice t n parts => simp only [readsOf] at h; simp only [aop, parts_congr (G := G) (g := g) h]
  | makeFunc f xs ys =>
    simp only [readsOf] at h
    have h1 : opnds G ρ g xs.toList = opnds G ρ' g xs.toList := opnds_congr (fun t ht => h t (by simp only [tmpsOf, List.filterMap_append, List.mem_append] at ht ⊢; exact .inl ht))
    have h2 : opnds G ρ g ys.toList = opnds G ρ' g ys.toList := opnds_congr (fun t ht => h t (by simp only [tmpsOf, List.filterMap_append, List.mem_append] at ht ⊢; exact .inr ht))
    simp only [aop, h1, h2]
  | store T x y | binOp op T x y T' | indexAddr T x y =>
    simp only [readsOf] at h
    have e : ∀ z, z ∈ [x, y] → opnd G ρ g z = opnd G ρ' g z := fun z hz => one hz h
    simp only [aop, e x (by simp), e y (by simp)]
  | move x | assign x | box T x | load T x | nilCheck x | unOp op T x | convert s d x | fieldAddr T x j | field T x j | extract x j =>
    simp only [readsOf] at h
    have e : opnd G ρ g x = opnd G ρ' g x := one (by simp) h
    simp only [aop, e]
  | makeMap t r => cases r <;> rfl
  | lookup t x y ok =>
    simp only [readsOf] at h
    have e : ∀ z, z ∈ [x, y] → opnd G ρ g z = opnd G ρ' g z := fun z hz => one hz h
    simp only [aop, e x (by simp), e y (by simp)]
  | mapUpdate t x y z =>
    simp only [readsOf] at h
    have e : ∀ q, q ∈ [x, y, z] → opnd G ρ g q = opnd G ρ' g q := fun q hq => one hq h
    simp only [aop, e x (by simp), e y (by simp), e z (by simp)]
  | range t x | entry x =>
    simp only [readsOf] at h
    have e : opnd G ρ g x = opnd G ρ' g x := one (by simp) h
    simp only [aop, e]
  | slice t x lo hi mx =>
    simp only [readsOf] at h
    have e : opnd G ρ g x = opnd G ρ' g x := one (by simp) h
    have sub : ∀ {l : List Operand}, (∀ y ∈ l, y ∈ x :: (lo.toList ++ hi.toList)) → ∀ t ∈ tmpsOf l, ρ t = ρ' t := fun hl t ht => by
      simp only [tmpsOf, List.mem_filterMap] at ht
      obtain ⟨y, hy, ey⟩ := ht
      exact h t (by simp only [tmpsOf, List.mem_filterMap]; exact ⟨y, hl y hy, ey⟩)
    have e1 : optIx G ρ g lo = optIx G ρ' g lo := optIx_congr (sub (fun y hy => by simp only [List.mem_cons, List.mem_append]; exact .inr (.inl hy)))
    have e2 : optIx G ρ g hi = optIx G ρ' g hi := optIx_congr (sub (fun y hy => by simp only [List.mem_cons, List.mem_append]; exact .inr (.inr hy)))
    cases mx
    · simp only [aop, e, e1, e2]
    · rfl
  | _ => rfl
inductive OEff where
  | no
  | set (i : Nat) (e : OE)
  | push (e : OE)
  | mv (i : Nat) (e : OE)
structure Cert where
  i : Nat
  rs : List (Nat × Option EV)
  os : List (Nat × OE)
  all : Option (List OE)
  len : Option Nat
  ws : Option (Nat × Option EV)
  eff : OEff
  ob : Option Prop
def Cert.Ok (c : Cert) (S : RS) : Prop := (∀ p ∈ c.rs, S.ρ p.1 = p.2) ∧ (∀ p ∈ c.os, S.own[p.1]? = some p.2) ∧ (∀ l, c.all = some l → S.own = l) ∧ (∀ m, c.len = some m → S.own.length = m)
def putS (ρ : Rho) : Option (Nat × Option EV) → Rho
  | none => ρ
  | some (d, e) => fun t => bif t == d then e else ρ t
def putO (own : List OE) : OEff → List OE
  | .no => own
  | .set i e => own.set i e
  | .push e => own ++ [e]
  | .mv i e => own.set i .gone ++ [e]
def Cert.app (c : Cert) (S : RS) : RS := ⟨putS S.ρ c.ws, putO S.own c.eff, putL S.log c.i c.ob⟩
def NoGd (ρ : Rho) : Prop := ∀ t s b x, ρ t ≠ some (.gd s b x)
theorem putR_noGd {ρ : Rho} (h : NoGd ρ) (dst : Option Nat) (e : Option EV) : putR ρ dst e = putS ρ (dst.map fun d => (d, e)) := by
  cases dst with
  | none => rfl
  | some d =>
    funext t
    simp only [putR, putS, Option.map_some]
    cases t == d
    · simp only [cond_false]
      split
      · rename_i s b x hx; exact absurd hx (h _ _ _ _)
      · rfl
    · rfl
def certReq (i : Nat) (dst : Option Nat) (rs : List (Nat × Option EV)) (own : List OE) (v : AV) (ob : Option Prop) : Req → Option Cert
  | .val _ _ => some ⟨i, rs, [], none, none, dst.map fun d => (d, some (.av v)), .no, ob⟩
  | .rd j _ => match own[j]? with
    | some e => some ⟨i, rs, [(j, e)], none, none, dst.map fun d => (d, some (.av v)), .no, ob⟩
    | none => none
  | .all _ => some ⟨i, rs, [], some own, none, dst.map fun d => (d, some (.av v)), .no, ob⟩
  | .wr j f => match own[j]? with
    | some e => match f e with
      | some (e', _) => some ⟨i, rs, [(j, e)], none, none, dst.map fun d => (d, some (.av v)), .set j e', ob⟩
      | none => none
    | none => none
  | .ext e _ _ => some ⟨i, rs, [], none, some own.length, dst.map fun d => (d, some (.av v)), .push e, ob⟩
  | .mv j f => match own[j]? with
    | some e => match f e with
      | some (e', _) => some ⟨i, rs, [(j, e)], none, some own.length, dst.map fun d => (d, some (.av v)), .mv j e', ob⟩
      | none => none
    | none => none
  | .opn _ => none
def certGo (P : Program) (G : GTab) (o : Oper) (orc : Orc) (i : Nat) (gs : List Nat) (S : RS) : Option Cert :=
  match aop P G S.ρ none orc o.op with
  | some req => match stepReq S.own req with
    | some (_, v, ob) => match goFin orc v ob with
      | some (v', ob') => certReq i o.dst ((gs ++ readsOf o.op).map fun t => (t, S.ρ t)) S.own v' ob' req
      | none => none
    | none => none
  | none => none
def certOp (P : Program) (G : GTab) (ops : Array Oper) (orc : Nat → Orc) (i : Nat) (S : RS) : Option Cert :=
  match ops[i]? with
  | none => none
  | some o => match o.guard with
    | none => certGo P G o (orc i) i [] S
    | some (j, want) => match (ops[j]?).bind (·.dst) with
      | none => none
      | some s => match orc i with
        | .may => none
        | orc => match S.ρ s with
          | some (.av (.bool b)) => bif b == want then certGo P G o orc i [s] S else some ⟨i, [(s, S.ρ s)], [], none, none, o.dst.map fun d => (d, some (.av (.tup []))), .no, none⟩
          | some (.av (.tup _)) => some ⟨i, [(s, S.ρ s)], [], none, none, o.dst.map fun d => (d, some (.av (.tup []))), .no, none⟩
          | _ => none
theorem certReq_i {i : Nat} {dst : Option Nat} {rs : List (Nat × Option EV)} {own : List OE} {v : AV} {ob : Option Prop} {req : Req} {c : Cert} (h : certReq i dst rs own v ob req = some c) : c.i = i := by
  unfold certReq at h
  split at h
  · cases h; rfl
  · split at h <;> cases h; rfl
  · cases h; rfl
  · split at h
    · split at h <;> cases h; rfl
    · cases h
  · cases h; rfl
  · split at h
    · split at h <;> cases h; rfl
    · cases h
  · cases h
theorem certGo_i {o : Oper} {orc : Orc} {i : Nat} {gs : List Nat} {S : RS} {c : Cert} (h : certGo P G o orc i gs S = some c) : c.i = i := by
  unfold certGo at h
  split at h
  case h_2 => cases h
  split at h
  case h_2 => cases h
  split at h
  · exact certReq_i h
  · cases h
theorem certGo_spec {o : Oper} {orc : Orc} {i : Nat} {gs : List Nat} {S : RS} {c : Cert} (h : certGo P G o orc i gs S = some c) :
    c.Ok S ∧ (∀ t ∈ gs, (t, S.ρ t) ∈ c.rs) ∧ ∀ S1, c.Ok S1 → NoGd S1.ρ → goOp P G o orc i S1 = some (c.app S1) := by
  unfold certGo at h
  split at h
  case h_2 => cases h
  rename_i req hreq
  split at h
  case h_2 => cases h
  rename_i own' v ob hst
  split at h
  case h_2 => cases h
  rename_i v' ob' hfin
  have hrs : ∀ S1 : RS, (∀ p ∈ (gs ++ readsOf o.op).map (fun t => (t, S.ρ t)), S1.ρ p.1 = p.2) → aop P G S1.ρ none orc o.op = some req := by
    intro S1 h1
    rw [← hreq]
    refine aop_congr (fun t ht => ?_)
    exact h1 (t, S.ρ t) (List.mem_map.2 ⟨t, by simp [ht], rfl⟩)
  have hgs : ∀ t ∈ gs, (t, S.ρ t) ∈ (gs ++ readsOf o.op).map (fun t => (t, S.ρ t)) := fun t ht => List.mem_map.2 ⟨t, by simp [ht], rfl⟩
  have hgo : ∀ (S1 : RS) (own1 : List OE), aop P G S1.ρ none orc o.op = some req → stepReq S1.own req = some (own1, v, ob) → goOp P G o orc i S1 = some ⟨putR S1.ρ o.dst (some (.av v')), own1, putL S1.log i ob'⟩ := by
    intro S1 own1 h1 h2
    unfold goOp; simp only [h1, h2, hfin]
  have rs0 : ∀ p ∈ (gs ++ readsOf o.op).map (fun t => (t, S.ρ t)), S.ρ p.1 = p.2 := by
    intro p hp
    obtain ⟨t, _, rfl⟩ := List.mem_map.1 hp
    rfl
  clear hreq
  unfold certReq at h
  split at h
  · cases h
    refine ⟨⟨rs0, by simp, by simp, by simp⟩, hgs, fun S1 h1 hng => ?_⟩
    rw [hgo S1 S1.own (hrs S1 h1.1) (by simp only [stepReq, Option.some.injEq, Prod.mk.injEq] at hst ⊢; exact ⟨trivial, hst.2⟩), putR_noGd hng]; rfl
  · rename_i j f
    split at h
    · rename_i e he
      cases h
      refine ⟨⟨rs0, by intro p hp; simp at hp; subst hp; exact he, by simp, by simp⟩, hgs, fun S1 h1 hng => ?_⟩
      have he1 := h1.2.1 (j, e) (by simp)
      have : stepReq S1.own (.rd j f) = some (S1.own, v, ob) := by
        unfold stepReq at hst ⊢
        simp only [he, he1] at hst ⊢
        cases hf : f e with
        | none => rw [hf] at hst; cases hst
        | some x => rw [hf] at hst; simp only [Option.map_some, Option.some.injEq, Prod.mk.injEq] at hst ⊢; exact ⟨trivial, hst.2⟩
      rw [hgo S1 S1.own (hrs S1 h1.1) this, putR_noGd hng]; rfl
    · cases h
  · rename_i f
    cases h
    refine ⟨⟨rs0, by simp, by intro l hl; cases hl; rfl, by simp⟩, hgs, fun S1 h1 hng => ?_⟩
    have he1 : S1.own = S.own := h1.2.2.1 _ rfl
    have : stepReq S1.own (.all f) = some (S1.own, v, ob) := by
      unfold stepReq at hst ⊢
      simp only [he1] at hst ⊢
      cases hf : f S.own with
      | none => rw [hf] at hst; cases hst
      | some x => rw [hf] at hst; simp only [Option.map_some, Option.some.injEq, Prod.mk.injEq] at hst ⊢; exact ⟨trivial, hst.2⟩
    rw [hgo S1 S1.own (hrs S1 h1.1) this, putR_noGd hng]; rfl
  · rename_i j f
    split at h
    · rename_i e he
      split at h
      · rename_i e' ob2 hf
        cases h
        refine ⟨⟨rs0, by intro p hp; simp at hp; subst hp; exact he, by simp, by simp⟩, hgs, fun S1 h1 hng => ?_⟩
        have he1 := h1.2.1 (j, e) (by simp)
        have : stepReq S1.own (.wr j f) = some (S1.own.set j e', v, ob) := by
          unfold stepReq at hst ⊢
          simp only [he, he1, hf, Option.map_some, Option.some.injEq, Prod.mk.injEq] at hst ⊢
          exact ⟨trivial, hst.2⟩
        rw [hgo S1 _ (hrs S1 h1.1) this, putR_noGd hng]; rfl
      · cases h
    · cases h
  · rename_i e f ob0
    cases h
    refine ⟨⟨rs0, by simp, by simp, by intro m hm; cases hm; rfl⟩, hgs, fun S1 h1 hng => ?_⟩
    have he1 : S1.own.length = S.own.length := h1.2.2.2 _ rfl
    have : stepReq S1.own (.ext e f ob0) = some (S1.own ++ [e], v, ob) := by
      unfold stepReq at hst ⊢
      simp only [Option.some.injEq, Prod.mk.injEq] at hst ⊢
      exact ⟨trivial, by rw [he1]; exact hst.2.1, hst.2.2⟩
    rw [hgo S1 _ (hrs S1 h1.1) this, putR_noGd hng]; rfl
  · rename_i j f
    split at h
    · rename_i e he
      split at h
      · rename_i e' ob2 hf
        cases h
        refine ⟨⟨rs0, by intro p hp; simp at hp; subst hp; exact he, by simp, by intro m hm; cases hm; rfl⟩, hgs, fun S1 h1 hng => ?_⟩
        have he1 := h1.2.1 (j, e) (by simp)
        have hl1 : S1.own.length = S.own.length := h1.2.2.2 _ rfl
        have : stepReq S1.own (.mv j f) = some (S1.own.set j .gone ++ [e'], v, ob) := by
          unfold stepReq at hst ⊢
          simp only [he, he1, hf, Option.map_some, Option.some.injEq, Prod.mk.injEq] at hst ⊢
          exact ⟨trivial, by rw [hl1]; exact hst.2.1, hst.2.2⟩
        rw [hgo S1 _ (hrs S1 h1.1) this, putR_noGd hng]; rfl
      · cases h
    · cases h
  · cases h
theorem certOp_spec {ops : Array Oper} {orc : Nat → Orc} {i : Nat} {S : RS} {c : Cert} (h : certOp P G ops orc i S = some c) :
    c.i = i ∧ c.Ok S ∧ ∀ S1, c.Ok S1 → NoGd S1.ρ → stepOp P G ops orc i S1 = some (c.app S1) ∨ (stepOp P G ops orc i S1 = some ⟨(c.app S1).ρ, (c.app S1).own, S1.log⟩ ∧ c.ob = none) := by
  unfold certOp at h
  split at h
  · cases h
  rename_i o ho
  split at h
  · rename_i hgd
    obtain ⟨h1, _, h3⟩ := certGo_spec h
    refine ⟨certGo_i h, h1, fun S1 hS1 hng => .inl ?_⟩
    unfold stepOp; simp only [ho, hgd]; exact h3 S1 hS1 hng
  · rename_i j want hgd
    split at h
    · cases h
    rename_i s hs
    split at h
    · cases h
    rename_i horc
    split at h
    case h_3 => cases h
    case h_2 =>
      rename_i l hx
      simp only [Option.some.injEq] at h; subst h
      refine ⟨rfl, ⟨by intro p hp; simp at hp; subst hp; rfl, by simp, by simp, by simp⟩, fun S1 h1 hng => .inr ⟨?_, rfl⟩⟩
      have e1 : S1.ρ s = some (.av (.tup l)) := by rw [h1.1 (s, S.ρ s) (by simp)]; exact hx
      have : stepOp P G ops orc i S1 = some ⟨putR S1.ρ o.dst (some (.av (.tup []))), S1.own, S1.log⟩ := by
        unfold stepOp; simp only [ho, hgd, hs]
        generalize orc i = oi at horc ⊢
        cases oi <;> first | exact absurd rfl horc | simp only [e1]
      rw [this, putR_noGd hng]; rfl
    rename_i x hx
    cases hxw : x == want
    · rw [hxw] at h; simp only [cond_false, Option.some.injEq] at h; subst h
      refine ⟨rfl, ⟨by intro p hp; simp at hp; subst hp; rfl, by simp, by simp, by simp⟩, fun S1 h1 hng => .inr ⟨?_, rfl⟩⟩
      have e1 : S1.ρ s = some (.av (.bool x)) := by rw [h1.1 (s, S.ρ s) (by simp)]; exact hx
      have : stepOp P G ops orc i S1 = some ⟨putR S1.ρ o.dst (some (.av (.tup []))), S1.own, S1.log⟩ := by
        unfold stepOp; simp only [ho, hgd, hs]
        generalize orc i = oi at horc ⊢
        cases oi <;> first | exact absurd rfl horc | simp only [e1, hxw, cond_false]
      rw [this, putR_noGd hng]; rfl
    · rw [hxw] at h; simp only [cond_true] at h
      obtain ⟨h1, h2, h3⟩ := certGo_spec h
      refine ⟨certGo_i h, h1, fun S1 hS1 hng => .inl ?_⟩
      have e1 : S1.ρ s = some (.av (.bool x)) := by rw [hS1.1 (s, S.ρ s) (h2 s (by simp))]; exact hx
      have h4 := h3 S1 hS1 hng
      unfold stepOp; simp only [ho, hgd, hs]
      generalize orc i = oi at horc h4 ⊢
      cases oi <;> first | exact absurd rfl horc | (simp only [e1, hxw, cond_true]; exact h4)
end Go.Fw

namespace Go.Fw
variable {P : Program} {B : Base} {w : World} {a : Act} {G : GTab}

def wsFree (x p : Cert) : Bool := match x.ws with
  | none => true
  | some (d, _) => !(p.rs.any fun q => q.1 == d) && (match p.ws with
    | some (d', _) => !(d' == d)
    | none => true)
def effFree (x p : Cert) : Bool := match x.eff with
  | .no => true
  | .set a _ => p.all.isNone && !(p.os.any fun q => q.1 == a) && (match p.eff with
    | .set b _ => !(b == a)
    | .push _ => x.os.any fun q => q.1 == a
    | .mv b _ => !(b == a) && x.os.any fun q => q.1 == a
    | .no => true)
  | .mv a _ => p.all.isNone && p.len.isNone && !(p.os.any fun q => q.1 == a) && (match x.len with
    | some m => p.os.all fun q => Nat.blt q.1 m
    | none => false) && (match p.eff with
    | .push _ | .mv _ _ => false
    | .set b _ => !(b == a) && p.os.any fun q => q.1 == b
    | .no => true)
  | .push _ => p.all.isNone && p.len.isNone && (match x.len with
    | some m => p.os.all fun q => Nat.blt q.1 m
    | none => false) && (match p.eff with
    | .push _ | .mv _ _ => false
    | .set b _ => p.os.any fun q => q.1 == b
    | .no => true)
def noConf (x p : Cert) : Bool := wsFree x p && wsFree p x && effFree x p && effFree p x && !(x.i == p.i)
def chain : RS → List Cert → Prop
  | _, [] => True
  | S, c :: cs => c.Ok S ∧ chain (c.app S) cs
def runC : RS → List Cert → RS
  | S, [] => S
  | S, c :: cs => runC (c.app S) cs
theorem not_any {α : Type} {l : List α} {f : α → Bool} (h : (!(l.any f)) = true) : ∀ x ∈ l, f x = false := by
  intro x hx
  cases hf : f x
  · rfl
  · have : l.any f = true := List.any_eq_true.2 ⟨x, hx, hf⟩
    rw [this] at h; cases h
theorem swap_rs {x p : Cert} {S : RS} (h : wsFree x p = true) : ∀ q ∈ p.rs, (x.app S).ρ q.1 = S.ρ q.1 := by
  intro q hq
  unfold wsFree at h
  simp only [Cert.app]
  cases hws : x.ws with
  | none => rfl
  | some de =>
    obtain ⟨d, e⟩ := de
    rw [hws] at h
    simp only [Bool.and_eq_true] at h
    have := not_any h.1 q hq
    simp only [putS, this, cond_false]
theorem swap_ok1 {x p : Cert} {S : RS} (h1 : wsFree x p = true) (h2 : effFree x p = true) (hx : x.Ok S) (hp : p.Ok (x.app S)) : p.Ok S := by
  obtain ⟨p1, p2, p3, p4⟩ := hp
  refine ⟨fun q hq => by rw [← swap_rs h1 q hq]; exact p1 q hq, fun q hq => ?_, fun l hl => ?_, fun m hm => ?_⟩
  · have := p2 q hq
    unfold effFree at h2
    simp only [Cert.app] at this
    cases he : x.eff with
    | no => rw [he] at this; exact this
    | set b e =>
      rw [he] at this h2
      simp only [Bool.and_eq_true] at h2
      have hne := not_any h2.1.2 q hq
      simp only [putO] at this
      rwa [List.getElem?_set_ne (by intro e1; rw [e1] at hne; simp at hne)] at this
    | push e =>
      rw [he] at this h2
      simp only [Bool.and_eq_true] at h2
      cases hlen : x.len with
      | none => rw [hlen] at h2; simp at h2
      | some m =>
        rw [hlen] at h2
        have hlt := List.all_eq_true.1 h2.1.2 q hq
        have hm := hx.2.2.2 m hlen
        simp only [putO] at this
        rwa [List.getElem?_append_left (by simp [Nat.blt_eq] at hlt; omega)] at this
    | mv b e =>
      rw [he] at this h2
      simp only [Bool.and_eq_true] at h2
      obtain ⟨⟨⟨_, h2c⟩, h2b⟩, _⟩ := h2
      cases hlen : x.len with
      | none => rw [hlen] at h2b; simp at h2b
      | some m =>
        rw [hlen] at h2b
        have hlt := List.all_eq_true.1 h2b q hq
        have hne := not_any h2c q hq
        have hm := hx.2.2.2 m hlen
        simp only [putO] at this
        rw [List.getElem?_append_left (by simp [Nat.blt_eq] at hlt; simp; omega)] at this
        rwa [List.getElem?_set_ne (by intro e1; rw [e1] at hne; simp at hne)] at this
  · have := p3 l hl
    unfold effFree at h2
    simp only [Cert.app] at this
    cases he : x.eff with
    | no => rw [he] at this; exact this
    | set b e => rw [he, hl] at h2; simp at h2
    | push e => rw [he, hl] at h2; simp at h2
    | mv b e => rw [he, hl] at h2; simp at h2
  · have := p4 m hm
    unfold effFree at h2
    simp only [Cert.app] at this
    cases he : x.eff with
    | no => rw [he] at this; exact this
    | set b e => rw [he] at this; simpa [putO] using this
    | push e => rw [he, hm] at h2; simp at h2
    | mv b e => rw [he, hm] at h2; simp at h2
theorem swap_ok2 {x p : Cert} {S : RS} (h1 : wsFree p x = true) (h2 : effFree p x = true) (hx : x.Ok S) : x.Ok (p.app S) := by
  obtain ⟨p1, p2, p3, p4⟩ := hx
  refine ⟨fun q hq => by rw [swap_rs h1 q hq]; exact p1 q hq, fun q hq => ?_, fun l hl => ?_, fun m hm => ?_⟩
  · have := p2 q hq
    unfold effFree at h2
    simp only [Cert.app]
    cases he : p.eff with
    | no => exact this
    | set b e =>
      rw [he] at h2
      simp only [Bool.and_eq_true] at h2
      have hne := not_any h2.1.2 q hq
      simp only [putO]
      rwa [List.getElem?_set_ne (by intro e1; rw [e1] at hne; simp at hne)]
    | push e =>
      simp only [putO]
      rwa [List.getElem?_append_left (List.getElem?_eq_some_iff.1 this).1]
    | mv b e =>
      rw [he] at h2
      simp only [Bool.and_eq_true] at h2
      have hne := not_any h2.1.1.2 q hq
      simp only [putO]
      rw [List.getElem?_append_left (by simpa using (List.getElem?_eq_some_iff.1 this).1)]
      rwa [List.getElem?_set_ne (by intro e1; rw [e1] at hne; simp at hne)]
  · have := p3 l hl
    unfold effFree at h2
    simp only [Cert.app]
    cases he : p.eff with
    | no => exact this
    | set b e => rw [he, hl] at h2; simp at h2
    | push e => rw [he, hl] at h2; simp at h2
    | mv b e => rw [he, hl] at h2; simp at h2
  · have := p4 m hm
    unfold effFree at h2
    simp only [Cert.app]
    cases he : p.eff with
    | no => exact this
    | set b e => simpa [putO] using this
    | push e => rw [he, hm] at h2; simp at h2
    | mv b e => rw [he, hm] at h2; simp at h2
theorem any_key {l : List (Nat × OE)} {a : Nat} (h : (l.any fun q => q.1 == a) = true) : ∃ e, (a, e) ∈ l := by
  obtain ⟨q, hq, he⟩ := List.any_eq_true.1 h
  have : q.1 = a := by simpa using he
  exact ⟨q.2, by rw [← this]; exact hq⟩
theorem swap_app {x p : Cert} {S : RS} (h1 : wsFree x p = true) (h2 : effFree x p = true) (h3 : effFree p x = true) (hi : x.i ≠ p.i) (hx : x.Ok S) (hp : p.Ok S) : p.app (x.app S) = x.app (p.app S) := by
  have e1 : putS (putS S.ρ x.ws) p.ws = putS (putS S.ρ p.ws) x.ws := by
    unfold wsFree at h1
    cases hxw : x.ws with
    | none => rfl
    | some de =>
      obtain ⟨d, e⟩ := de
      cases hpw : p.ws with
      | none => rfl
      | some de' =>
        obtain ⟨d', e'⟩ := de'
        rw [hxw, hpw] at h1
        simp only [Bool.and_eq_true, Bool.not_eq_true', beq_eq_false_iff_ne] at h1
        funext t
        simp only [putS]
        by_cases ht : t = d
        · subst ht
          have : (t == d') = false := by simpa using Ne.symm h1.2
          simp [this]
        · have : (t == d) = false := by simpa using ht
          simp [this]
  have e2 : putO (putO S.own x.eff) p.eff = putO (putO S.own p.eff) x.eff := by
    unfold effFree at h2 h3
    cases hxe : x.eff with
    | no => rfl
    | set b e =>
      cases hpe : p.eff with
      | no => rfl
      | set b' e' =>
        rw [hxe, hpe] at h2
        simp only [Bool.and_eq_true, Bool.not_eq_true', beq_eq_false_iff_ne] at h2
        simp only [putO]
        exact List.set_comm _ _ (Ne.symm h2.2)
      | push e' =>
        rw [hxe, hpe] at h2
        simp only [Bool.and_eq_true] at h2
        obtain ⟨e0, he0⟩ := any_key h2.2
        have := (List.getElem?_eq_some_iff.1 (hx.2.1 _ he0)).1
        simp only [putO]
        rw [List.set_append_left _ _ this]
      | mv b' e' =>
        rw [hxe, hpe] at h2
        simp only [Bool.and_eq_true, Bool.not_eq_true', beq_eq_false_iff_ne] at h2
        obtain ⟨e0, he0⟩ := any_key h2.2.2
        have := (List.getElem?_eq_some_iff.1 (hx.2.1 _ he0)).1
        simp only [putO]
        rw [List.set_append_left _ _ (by simpa using this), List.set_comm _ _ (Ne.symm h2.2.1)]
    | push e =>
      cases hpe : p.eff with
      | no => rfl
      | set b' e' =>
        rw [hxe, hpe] at h2
        simp only [Bool.and_eq_true] at h2
        obtain ⟨e0, he0⟩ := any_key h2.2
        have := (List.getElem?_eq_some_iff.1 (hp.2.1 _ he0)).1
        simp only [putO]
        rw [List.set_append_left _ _ this]
      | push e' => rw [hxe, hpe] at h2; simp at h2
      | mv b' e' => rw [hxe, hpe] at h2; simp at h2
    | mv b e =>
      cases hpe : p.eff with
      | no => rfl
      | set b' e' =>
        rw [hxe, hpe] at h2
        simp only [Bool.and_eq_true, Bool.not_eq_true', beq_eq_false_iff_ne] at h2
        obtain ⟨e0, he0⟩ := any_key h2.2.2
        have := (List.getElem?_eq_some_iff.1 (hp.2.1 _ he0)).1
        simp only [putO]
        rw [List.set_append_left _ _ (by simpa using this), List.set_comm _ _ (Ne.symm h2.2.1)]
      | push e' => rw [hxe, hpe] at h2; simp at h2
      | mv b' e' => rw [hxe, hpe] at h2; simp at h2
  have e3 : putL (putL S.log x.i x.ob) p.i p.ob = putL (putL S.log p.i p.ob) x.i x.ob := by
    funext j
    simp only [putL]
    by_cases hj : j = x.i
    · subst hj
      have : (x.i == p.i) = false := by simpa using hi
      simp [this]
    · have : (j == x.i) = false := by simpa using hj
      simp [this]
  simp only [Cert.app, e1, e2, e3]
theorem swap {x p : Cert} {S : RS} {cs : List Cert} (h : noConf x p = true) (hc : chain S (x :: p :: cs)) : chain S (p :: x :: cs) ∧ runC S (p :: x :: cs) = runC S (x :: p :: cs) := by
  unfold noConf at h
  simp only [Bool.and_eq_true, Bool.not_eq_true', beq_eq_false_iff_ne] at h
  obtain ⟨⟨⟨⟨h1, h2⟩, h3⟩, h4⟩, h5⟩ := h
  obtain ⟨hx, hp, hcs⟩ := hc
  have hp' := swap_ok1 h1 h3 hx hp
  have he := swap_app h1 h3 h4 h5 hx hp'
  refine ⟨⟨hp', swap_ok2 h2 h4 hx, by rw [← he]; exact hcs⟩, ?_⟩
  simp only [runC, he]
theorem bubble {p : Cert} : ∀ {pre post : List Cert} {S : RS}, (∀ x ∈ pre, noConf x p = true) → chain S (pre ++ p :: post) → chain S (p :: (pre ++ post)) ∧ runC S (p :: (pre ++ post)) = runC S (pre ++ p :: post)
  | [], post, S, _, h => ⟨h, rfl⟩
  | x :: pre, post, S, hx, h => by
    obtain ⟨h1, h2⟩ := h
    obtain ⟨h3, h4⟩ := bubble (fun y hy => hx y (by simp [hy])) h2
    obtain ⟨h5, h6⟩ := swap (hx x (by simp)) (cs := pre ++ post) ⟨h1, h3⟩
    refine ⟨h5, h6.trans ?_⟩
    show runC (x.app S) (p :: (pre ++ post)) = _
    rw [h4]; rfl
theorem perm_run : ∀ {π σ : List Cert} {S : RS}, π.Perm σ → σ.Pairwise (fun x p => x.i < p.i) → π.Pairwise (fun p x => x.i < p.i → noConf x p = true) → chain S σ → chain S π ∧ runC S π = runC S σ
  | [], σ, S, hp, _, _, hc => by
    have := hp.symm.eq_nil; subst this; exact ⟨hc, rfl⟩
  | p :: π, σ, S, hp, hs, hπ, hc => by
    have hm : p ∈ σ := hp.subset (by simp)
    obtain ⟨pre, post, rfl⟩ := List.append_of_mem hm
    have hpp : π.Perm (pre ++ post) := by
      have := hp.trans (List.perm_middle)
      exact this.cons_inv
    have hpre : ∀ x ∈ pre, noConf x p = true := by
      intro x hx
      have h1 : x.i < p.i := (List.pairwise_append.1 hs).2.2 x hx p (by simp)
      have h2 : x ∈ π := hpp.symm.subset (by simp [hx])
      exact (List.pairwise_cons.1 hπ).1 x h2 h1
    obtain ⟨h1, h2⟩ := bubble hpre hc
    obtain ⟨h3, h4⟩ := h1
    have hs' : (pre ++ post).Pairwise (fun x p => x.i < p.i) := hs.sublist (List.Sublist.append_left (List.sublist_cons_self p post) pre)
    obtain ⟨h5, h6⟩ := perm_run hpp hs' (List.pairwise_cons.1 hπ).2 h4
    exact ⟨⟨h3, h5⟩, by show runC (p.app S) π = _; rw [h6]; exact h2⟩
def edgesBack (ops : Array Oper) : Bool := (List.range ops.size).all fun j => match ops[j]? with
  | some o => o.after.toList.all fun e => !(Region.binds .any e) || Nat.blt e.on j
  | none => true
def deps (ops : Array Oper) (j : Nat) : List Nat := match ops[j]? with
  | some o => (o.after.toList.filter (Region.binds .any)).map (·.on)
  | none => []
theorem edges_dep {ops : Array Oper} (h : edgesBack ops = true) {j d : Nat} (hj : j < ops.size) (hd : d ∈ deps ops j) : d < j := by
  have := List.all_eq_true.1 h j (List.mem_range.2 hj)
  unfold deps at hd
  cases ho : ops[j]? with
  | none => rw [ho] at hd; simp at hd
  | some o =>
    rw [ho] at this hd
    obtain ⟨e, he, rfl⟩ := List.mem_map.1 hd
    have he' := List.mem_filter.1 he
    have := List.all_eq_true.1 this e he'.1
    simp only [he'.2, Bool.not_true, Bool.false_or, Nat.blt_eq] at this
    exact this
theorem ready_iff {ops : Array Oper} {i : Nat} {listed : Array Bool} (hi : i < ops.size) : (((ops[i]?).map (·.after.all fun e => !Region.binds .any e || listed.getD e.on false)).getD false = true) ↔ ∀ d ∈ deps ops i, listed.getD d false = true := by
  unfold deps
  have ho : ops[i]? = some ops[i] := by simp [hi]
  rw [ho]
  simp only [Option.map_some, Option.getD_some]
  rw [← Array.all_toList, List.all_eq_true]
  constructor
  · intro h d hd
    obtain ⟨e, he, rfl⟩ := List.mem_map.1 hd
    have he' := List.mem_filter.1 he
    have := h e he'.1
    simpa [he'.2] using this
  · intro h e he
    cases hb : Region.binds .any e
    · rfl
    · simp only [Bool.not_true, Bool.false_or]
      exact h e.on (List.mem_map.2 ⟨e, List.mem_filter.2 ⟨he, hb⟩, rfl⟩)
structure Legal (ops : Array Oper) (l : List Nat) : Prop where
  nodup : l.Nodup
  mem : ∀ i, i ∈ l ↔ i < ops.size
  dep : ∀ pre i post, l = pre ++ i :: post → ∀ d ∈ deps ops i, d ∈ pre
theorem getD_set_eq {listed : Array Bool} {i j : Nat} {n : Nat} (hn : listed.size = n) (hi : i < n) : (listed.setIfInBounds i true).getD j false = if j = i then true else listed.getD j false := by
  rw [Array.getD_eq_getD_getElem?, Array.getD_eq_getD_getElem?, Array.getElem?_setIfInBounds]
  by_cases h : i = j
  · subst h; simp [hn, hi]
  · rw [if_neg h, if_neg (Ne.symm h)]
theorem nodup_sub_length : ∀ {l m : List Nat}, l.Nodup → l ⊆ m → l.length ≤ m.length
  | [], m, _, _ => by simp
  | x :: l, m, hn, hs => by
    have hx : x ∈ m := hs (by simp)
    have hn' := List.nodup_cons.1 hn
    have : l ⊆ m.erase x := fun y hy => by
      have hne : y ≠ x := fun e => hn'.1 (e ▸ hy)
      exact (List.mem_erase_of_ne hne).2 (hs (by simp [hy]))
    have := nodup_sub_length hn'.2 this
    rw [List.length_erase_of_mem hx] at this
    have := List.length_pos_of_mem hx
    simp; omega
theorem go_legal {ops : Array Oper} (hE : edgesBack ops = true) : ∀ (fuel t : Nat) (listed : Array Bool) (acc : List Nat), listed.size = ops.size → acc.length + fuel = ops.size → acc.Nodup → (∀ i, i < ops.size → (listed.getD i false = true ↔ i ∈ acc)) →
    (∀ i ∈ acc, i < ops.size) → (∀ pre i post, acc = pre ++ i :: post → ∀ d ∈ deps ops i, d ∈ post) → Legal ops (Region.linearise.go .any ops fuel t listed acc)
  | 0, t, listed, acc, hsz, hlen, hnd, hl, hm, hd => by
    simp only [Region.linearise.go]
    refine ⟨List.pairwise_reverse.2 (hnd.imp Ne.symm), fun i => ⟨fun hi => hm i (List.mem_reverse.1 hi), fun hi => List.mem_reverse.2 ?_⟩, fun pre i post e d hdd => ?_⟩
    · have hsub : acc ⊆ List.range ops.size := fun x hx => List.mem_range.2 (hm x hx)
      by_cases hia : i ∈ acc
      · exact hia
      · exfalso
        have := nodup_sub_length (l := i :: acc) (m := List.range ops.size) (List.nodup_cons.2 ⟨hia, hnd⟩) (by
          intro x hx
          rcases List.mem_cons.1 hx with rfl | hx
          · exact List.mem_range.2 hi
          · exact hsub hx)
        simp at this; omega
    · have e' : acc = post.reverse ++ i :: pre.reverse := by
        have := congrArg List.reverse e
        simpa using this
      exact List.mem_reverse.1 (hd _ _ _ e' d hdd)
  | fuel + 1, t, listed, acc, hsz, hlen, hnd, hl, hm, hd => by
    simp only [Region.linearise.go]
    generalize hrs : (List.range ops.size).filter (fun i => !listed.getD i true && ((ops[i]?).map (·.after.all fun e => !Region.binds .any e || listed.getD e.on false)).getD false) = rs
    have hmem : ∀ i, i ∈ rs ↔ i < ops.size ∧ i ∉ acc ∧ ∀ d ∈ deps ops i, listed.getD d false = true := by
      intro i
      rw [← hrs, List.mem_filter, List.mem_range]
      constructor
      · rintro ⟨h1, h2⟩
        simp only [Bool.and_eq_true, Bool.not_eq_true'] at h2
        refine ⟨h1, fun h => ?_, (ready_iff h1).1 h2.2⟩
        have := (hl i h1).2 h
        have e : listed.getD i true = listed.getD i false := by simp [Array.getD_eq_getD_getElem?, hsz, h1]
        rw [e, this] at h2; cases h2.1
      · rintro ⟨h1, h2, h3⟩
        refine ⟨h1, ?_⟩
        simp only [Bool.and_eq_true, Bool.not_eq_true']
        refine ⟨?_, (ready_iff h1).2 h3⟩
        have e : listed.getD i true = listed.getD i false := by simp [Array.getD_eq_getD_getElem?, hsz, h1]
        rw [e]
        cases hg : listed.getD i false
        · rfl
        · exact absurd ((hl i h1).1 hg) h2
    -- there is one that is ready: the least that is not listed
    have hex : ∃ i, i ∈ rs := by
      have : ∃ i, i < ops.size ∧ i ∉ acc := by
        by_cases h : ∃ i, i < ops.size ∧ i ∉ acc
        · exact h
        · exfalso
          have hall : ∀ i, i < ops.size → i ∈ acc := fun i hi => by
            by_cases h' : i ∈ acc
            · exact h'
            · exact absurd ⟨i, hi, h'⟩ h
          have hsub : List.range ops.size ⊆ acc := fun x hx => hall x (List.mem_range.1 hx)
          have := nodup_sub_length List.nodup_range hsub
          simp at this; omega
      have key : ∀ n i, i < ops.size → i ∉ acc → i ≤ n → ∃ j, j ∈ rs := by
        intro n
        induction n with
        | zero =>
          intro i h1 h2 h3
          have : i = 0 := by omega
          subst this
          exact ⟨0, (hmem 0).2 ⟨h1, h2, fun d hd' => absurd (edges_dep hE h1 hd') (by omega)⟩⟩
        | succ n ih =>
          intro i h1 h2 h3
          by_cases hall : ∀ d ∈ deps ops i, listed.getD d false = true
          · exact ⟨i, (hmem i).2 ⟨h1, h2, hall⟩⟩
          · have : ∃ d, d ∈ deps ops i ∧ listed.getD d false ≠ true := by
              by_cases h' : ∃ d, d ∈ deps ops i ∧ listed.getD d false ≠ true
              · exact h'
              · exact absurd (fun d hd' => by
                  by_cases h'' : listed.getD d false = true
                  · exact h''
                  · exact absurd ⟨d, hd', h''⟩ h') hall
            obtain ⟨d, hd1, hd2⟩ := this
            have hlt := edges_dep hE h1 hd1
            exact ih d (by omega) (fun h => hd2 ((hl d (by omega)).2 h)) (by omega)
      obtain ⟨i, h1, h2⟩ := this
      exact key i i h1 h2 (Nat.le_refl _)
    have hpos : 0 < rs.length := by
      obtain ⟨i, hi⟩ := hex
      exact List.length_pos_of_mem hi
    have hlt : t % rs.length < rs.length := Nat.mod_lt _ hpos
    rw [List.getElem?_eq_getElem hlt]
    simp only
    generalize hi : rs[t % rs.length] = i
    have hirs : i ∈ rs := by rw [← hi]; exact List.getElem_mem hlt
    obtain ⟨h1, h2, h3⟩ := (hmem i).1 hirs
    refine go_legal hE fuel _ _ _ (by simp [hsz]) (by simp; omega) (List.nodup_cons.2 ⟨h2, hnd⟩) (fun j hj => ?_) (fun j hj => ?_) (fun pre j post e d hdd => ?_)
    · rw [getD_set_eq hsz h1]
      by_cases hji : j = i
      · simp [hji]
      · rw [if_neg hji, hl j hj]; simp [hji]
    · rcases List.mem_cons.1 hj with rfl | hj
      · exact h1
      · exact hm j hj
    · cases pre with
      | nil =>
        simp only [List.nil_append, List.cons.injEq] at e
        obtain ⟨rfl, rfl⟩ := e
        have hdlt := edges_dep hE h1 hdd
        exact (hl d (by omega)).1 (h3 d hdd)
      | cons y pre =>
        simp only [List.cons_append, List.cons.injEq] at e
        exact hd pre j post e.2 d hdd
theorem linearise_legal {ops : Array Oper} (hE : edgesBack ops = true) (t : Nat) : Legal ops (Region.linearise .any ops t) := by
  unfold Region.linearise
  refine go_legal hE _ _ _ _ (by simp) (by simp) (by simp) (fun i hi => ?_) (by simp) (fun pre i post e => by simp at e)
  simp [Array.getD_eq_getD_getElem?, hi]
def maskOf (acc : List Nat) (o : Oper) : Nat := (o.after.toList.filter (Region.binds .any)).foldl (fun s e => s ||| (1 <<< e.on ||| acc.getD e.on 0)) 0
def masksFrom : List Nat → List Oper → List Nat
  | acc, [] => acc
  | acc, o :: os => masksFrom (acc ++ [maskOf acc o]) os
theorem foldl_bit {es : List Edge} {acc : List Nat} {s i : Nat} (h : (es.foldl (fun s e => s ||| (1 <<< e.on ||| acc.getD e.on 0)) s).testBit i = true) :
    s.testBit i = true ∨ ∃ e ∈ es, i = e.on ∨ (acc.getD e.on 0).testBit i = true := by
  induction es generalizing s with
  | nil => exact .inl h
  | cons e es ih =>
    simp only [List.foldl_cons] at h
    rcases ih h with h1 | ⟨e', he', h1⟩
    · rw [Nat.testBit_or, Nat.testBit_or, Bool.or_eq_true, Bool.or_eq_true] at h1
      rcases h1 with h1 | h1 | h1
      · exact .inl h1
      · refine .inr ⟨e, by simp, .inl ?_⟩
        rw [Nat.shiftLeft_eq, Nat.one_mul, Nat.testBit_two_pow] at h1
        exact (of_decide_eq_true h1).symm
      · exact .inr ⟨e, by simp, .inr h1⟩
    · exact .inr ⟨e', by simp [he'], h1⟩
def Ahead (l : List Nat) (i j : Nat) : Prop := ∃ pre post, l = pre ++ j :: post ∧ i ∈ pre
theorem Ahead.trans {l : List Nat} {i j k : Nat} (hn : l.Nodup) (h : Ahead l i j) (h' : Ahead l j k) : Ahead l i k := by
  obtain ⟨pre, post, e, hi⟩ := h
  obtain ⟨pre', post', e', hj⟩ := h'
  obtain ⟨p1, p2, rfl⟩ := List.append_of_mem hj
  refine ⟨p1 ++ j :: p2, post', e', ?_⟩
  -- l splits at j in one way only
  have : pre = p1 := by
    have e2 : pre ++ j :: post = p1 ++ j :: (p2 ++ k :: post') := by rw [← e, e']; simp
    have hj1 : j ∉ pre := by
      rw [e] at hn
      intro h; exact (List.nodup_append.1 hn).2.2 j h j (by simp) rfl
    have hj2 : j ∉ p1 := by
      rw [e'] at hn
      intro h
      have := (List.nodup_append.1 (by simpa using hn : (p1 ++ (j :: (p2 ++ k :: post'))).Nodup)).2.2 j h j (by simp)
      exact this rfl
    clear e e' hn hi hj
    revert p1
    induction pre with
    | nil =>
      intro p1 e2 hj2
      cases p1 with
      | nil => rfl
      | cons y p1 => simp only [List.nil_append, List.cons_append, List.cons.injEq] at e2; exact absurd (by rw [e2.1]; simp) hj2
    | cons x pre ih =>
      intro p1 e2 hj2
      cases p1 with
      | nil => simp only [List.nil_append, List.cons_append, List.cons.injEq] at e2; exact absurd (by rw [e2.1]; simp) hj1
      | cons y p1 =>
        simp only [List.cons_append, List.cons.injEq] at e2
        simp only [List.mem_cons, not_or] at hj1 hj2
        rw [e2.1, ih hj1.2 p1 e2.2 hj2.2]
  subst this
  simp [hi]
theorem dep_ahead {ops : Array Oper} {l : List Nat} (hl : Legal ops l) {j d : Nat} (hj : j < ops.size) (hd : d ∈ deps ops j) : Ahead l d j := by
  obtain ⟨pre, post, e⟩ := List.append_of_mem ((hl.mem j).2 hj)
  exact ⟨pre, post, e, hl.dep _ _ _ e d hd⟩
theorem masks_ahead {ops : Array Oper} {l : List Nat} (hE : edgesBack ops = true) (hl : Legal ops l) : ∀ (os : List Oper) (acc : List Nat), ops.toList.drop acc.length = os → acc.length ≤ ops.size →
    (∀ j i, j < acc.length → (acc.getD j 0).testBit i = true → Ahead l i j) → ∀ j i, j < ops.size → ((masksFrom acc os).getD j 0).testBit i = true → Ahead l i j
  | [], acc, hd, hle, hacc, j, i, hj, hb => by
    have : acc.length = ops.size := by
      have := congrArg List.length hd; simp at this; omega
    exact hacc j i (by omega) hb
  | o :: os, acc, hd, hle, hacc, j, i, hj, hb => by
    have hlt : acc.length < ops.size := by
      have := congrArg List.length hd; simp at this; omega
    have ho : ops[acc.length]? = some o := by
      rw [← Array.getElem?_toList]
      have := congrArg (fun l => l[0]?) hd
      simpa using this
    refine masks_ahead hE hl os (acc ++ [maskOf acc o]) ?_ (by simp; omega) ?_ j i hj hb
    · rw [List.length_append, List.length_singleton, ← List.drop_drop, hd]; rfl
    · intro j i hj hb
      by_cases hj' : j < acc.length
      · refine hacc j i hj' ?_
        rwa [List.getD_eq_getElem?_getD, List.getElem?_append_left hj', ← List.getD_eq_getElem?_getD] at hb
      · have hje : j = acc.length := by simp at hj; omega
        subst hje
        rw [List.getD_eq_getElem?_getD, List.getElem?_append_right (Nat.le_refl _)] at hb
        simp only [Nat.sub_self, List.getElem?_cons_zero, Option.getD_some] at hb
        unfold maskOf at hb
        rcases foldl_bit hb with h1 | ⟨e, he, h1⟩
        · simp at h1
        · have hdep : e.on ∈ deps ops acc.length := by
            unfold deps; rw [ho]; exact List.mem_map.2 ⟨e, he, rfl⟩
          have hd1 := dep_ahead hl hlt hdep
          rcases h1 with rfl | h1
          · exact hd1
          · have hlt' := edges_dep hE hlt hdep
            exact (hacc e.on i hlt' h1).trans hl.nodup hd1
def certOps (P : Program) (G : GTab) (ops : Array Oper) (orc : Nat → Orc) : List Nat → RS → Option (List Cert)
  | [], _ => some []
  | i :: l, S => match certOp P G ops orc i S with
    | some c => match certOps P G ops orc l (c.app S) with
      | some cs => some (c :: cs)
      | none => none
    | none => none
def pairsOk (ms : List Nat) : List Cert → Bool
  | [] => true
  | x :: cs => (cs.all fun p => noConf x p || (ms.getD p.i 0).testBit x.i) && pairsOk ms cs
def drawOK (P : Program) (G : GTab) (ops : Array Oper) (orc : List (Nat × Orc)) (S : AS) : Bool :=
  match certOps P G ops (fun i => (orc.lookup i).getD .no) (List.range ops.size) (rsOf S) with
  | some cs => edgesBack ops && pairsOk (masksFrom [] ops.toList) cs && Program.follows' P
  | none => false
where
  Program.follows' (P : Program) : Bool := P.follows .mixedOrders
theorem certOps_i {ops : Array Oper} {orc : Nat → Orc} : ∀ {l : List Nat} {S : RS} {cs : List Cert}, certOps P G ops orc l S = some cs → cs.map (·.i) = l
  | [], S, cs, h => by cases h; rfl
  | i :: l, S, cs, h => by
    unfold certOps at h
    split at h
    · rename_i c hc
      split at h
      · rename_i cs' hcs
        cases h
        simp [(certOp_spec hc).1, certOps_i hcs]
      · cases h
    · cases h
def Sound (P : Program) (G : GTab) (ops : Array Oper) (orc : Nat → Orc) (c : Cert) : Prop := ∀ S1 : RS, c.Ok S1 → NoGd S1.ρ → S1.log c.i = none → stepOp P G ops orc c.i S1 = some (c.app S1)
theorem certOps_chain {ops : Array Oper} {orc : Nat → Orc} : ∀ {l : List Nat} {S : RS} {cs : List Cert}, certOps P G ops orc l S = some cs → chain S cs ∧ ∀ c ∈ cs, Sound P G ops orc c
  | [], S, cs, h => by cases h; exact ⟨trivial, by simp⟩
  | i :: l, S, cs, h => by
    unfold certOps at h
    split at h
    · rename_i c hc
      split at h
      · rename_i cs' hcs
        cases h
        obtain ⟨h1, h2, h3⟩ := certOp_spec hc
        obtain ⟨h4, h5⟩ := certOps_chain hcs
        refine ⟨⟨h2, h4⟩, fun c' hc' => ?_⟩
        rcases List.mem_cons.1 hc' with rfl | hc'
        · intro S1 hS1 hng hlog
          rw [h1]
          rcases h3 S1 hS1 hng with h | ⟨h, hob⟩
          · exact h
          · rw [h]
            congr 1
            simp only [Cert.app, RS.mk.injEq, true_and]
            funext j
            simp only [putL, hob]
            by_cases hj : j = c'.i
            · subst hj; simp [hlog]
            · have : (j == c'.i) = false := by simpa using hj
              simp [this]
        · exact h5 c' hc'
      · cases h
    · cases h
theorem cond_cases {α : Type} {z : Bool} {x y : Option α} {r : α} (h : (bif z then x else y) = some r) : x = some r ∨ y = some r := by
  cases z
  · exact .inr h
  · exact .inl h
theorem stepOp_noGd {ops : Array Oper} {orc : Nat → Orc} {i : Nat} {S : RS} {c : Cert} (hc : certOp P G ops orc i S = some c) : ∀ d e, c.ws = some (d, some e) → ∃ x, e = .av x := by
  have hreq : ∀ {i : Nat} {dst : Option Nat} {rs : List (Nat × Option EV)} {own : List OE} {v : AV} {ob : Option Prop} {req : Req} {c : Cert}, certReq i dst rs own v ob req = some c → ∀ d e, c.ws = some (d, some e) → ∃ x, e = .av x := by
    intro i dst rs own v ob req c h d e hws
    have : c.ws = dst.map fun d => (d, some (.av v)) := by
      unfold certReq at h
      split at h
      · cases h; rfl
      · split at h <;> cases h; rfl
      · cases h; rfl
      · split at h
        · split at h <;> cases h; rfl
        · cases h
      · cases h; rfl
      · split at h
        · split at h <;> cases h; rfl
        · cases h
      · cases h
    rw [this] at hws
    cases dst with
    | none => cases hws
    | some d' => simp only [Option.map_some, Option.some.injEq, Prod.mk.injEq] at hws; exact ⟨v, hws.2.symm⟩
  have hgo : ∀ {o : Oper} {orc : Orc} {gs : List Nat}, certGo P G o orc i gs S = some c → ∀ d e, c.ws = some (d, some e) → ∃ x, e = .av x := by
    intro o orc gs h
    unfold certGo at h
    split at h
    case h_2 => cases h
    split at h
    case h_2 => cases h
    split at h
    · exact hreq h
    · cases h
  unfold certOp at hc
  split at hc
  · cases hc
  split at hc
  · exact hgo hc
  · split at hc
    · cases hc
    split at hc
    · cases hc
    have hsk : ∀ {q : Cert} {dst : Option Nat}, q.ws = dst.map (fun d => (d, some (.av (.tup [])))) → ∀ d e, q.ws = some (d, some e) → ∃ x, e = .av x := by
      intro q dst hq d e hws
      rw [hq] at hws
      cases dst with
      | none => cases hws
      | some d' => simp only [Option.map_some, Option.some.injEq, Prod.mk.injEq] at hws; exact ⟨_, hws.2.symm⟩
    split at hc
    case h_3 => cases hc
    case h_2 =>
      simp only [Option.some.injEq] at hc
      rw [← hc]; exact hsk rfl
    rename_i b' _
    rcases cond_cases hc with hc | hc
    · exact hgo hc
    · simp only [Option.some.injEq] at hc
      rw [← hc]; exact hsk rfl
theorem certOps_ws {ops : Array Oper} {orc : Nat → Orc} : ∀ {l : List Nat} {S : RS} {cs : List Cert}, certOps P G ops orc l S = some cs → ∀ c ∈ cs, ∀ d e, c.ws = some (d, some e) → ∃ x, e = .av x
  | [], S, cs, h => by cases h; simp
  | i :: l, S, cs, h => by
    unfold certOps at h
    split at h
    · rename_i c hc
      split at h
      · rename_i cs' hcs
        cases h
        intro c' hc'
        rcases List.mem_cons.1 hc' with rfl | hc'
        · exact stepOp_noGd hc
        · exact certOps_ws hcs c' hc'
      · cases h
    · cases h
theorem app_noGd {c : Cert} {S : RS} (h : NoGd S.ρ) (hw : ∀ d e, c.ws = some (d, some e) → ∃ x, e = .av x) : NoGd (c.app S).ρ := by
  intro t s b x
  simp only [Cert.app]
  cases hws : c.ws with
  | none => exact h t s b x
  | some de =>
    obtain ⟨d, e⟩ := de
    simp only [putS]
    cases t == d
    · exact h t s b x
    · simp only [cond_true]
      cases e with
      | none => simp
      | some e => obtain ⟨y, rfl⟩ := hw d e hws; simp
theorem eval_run {ops : Array Oper} {orc : Nat → Orc} : ∀ {cs : List Cert} {S : RS}, chain S cs → (∀ c ∈ cs, Sound P G ops orc c) → (∀ c ∈ cs, ∀ d e, c.ws = some (d, some e) → ∃ x, e = .av x) → NoGd S.ρ → (cs.map (·.i)).Nodup → (∀ c ∈ cs, S.log c.i = none) →
    evalOps P G ops orc (cs.map (·.i)) S = some (runC S cs)
  | [], S, _, _, _, _, _, _ => rfl
  | c :: cs, S, hc, hs, hw, hg, hn, hl => by
    have h1 := hs c (by simp) S hc.1 hg (hl c (by simp))
    have hn' := List.nodup_cons.1 hn
    simp only [List.map_cons, evalOps, h1]
    refine eval_run hc.2 (fun c' hc' => hs c' (by simp [hc'])) (fun c' hc' => hw c' (by simp [hc'])) (app_noGd hg (hw c (by simp))) hn'.2 (fun c' hc' => ?_)
    have hne : c'.i ≠ c.i := fun e => hn'.1 (List.mem_map.2 ⟨c', hc', e⟩)
    have : (c'.i == c.i) = false := by simpa using hne
    simp only [Cert.app, putL, this, cond_false]
    exact hl c' (by simp [hc'])
theorem pairsOk_spec {ms : List Nat} : ∀ {cs : List Cert}, pairsOk ms cs = true → cs.Pairwise fun x p => noConf x p = true ∨ (ms.getD p.i 0).testBit x.i = true
  | [], _ => List.Pairwise.nil
  | x :: cs, h => by
    simp only [pairsOk, Bool.and_eq_true] at h
    refine List.pairwise_cons.2 ⟨fun p hp => ?_, pairsOk_spec h.2⟩
    have := List.all_eq_true.1 h.1 p hp
    simpa using this
theorem sorted_find {cs : List Cert} {n : Nat} (h : cs.map (·.i) = List.range n) (i : Nat) (hi : i < n) : ∃ c ∈ cs, c.i = i := by
  have : i ∈ cs.map (·.i) := by rw [h]; exact List.mem_range.2 hi
  obtain ⟨c, hc, e⟩ := List.mem_map.1 this
  exact ⟨c, hc, e⟩
theorem reorder {cs : List Cert} {n : Nat} (h : cs.map (·.i) = List.range n) : ∀ {l : List Nat}, l.Nodup → (∀ i ∈ l, i < n) → ∃ π : List Cert, π.map (·.i) = l ∧ ∀ c ∈ π, c ∈ cs
  | [], _, _ => ⟨[], rfl, by simp⟩
  | i :: l, hn, hm => by
    obtain ⟨π, h1, h2⟩ := reorder h (List.nodup_cons.1 hn).2 (fun j hj => hm j (by simp [hj]))
    obtain ⟨c, hc, e⟩ := sorted_find h i (hm i (by simp))
    exact ⟨c :: π, by simp [e, h1], fun c' hc' => by
      rcases List.mem_cons.1 hc' with rfl | hc'
      · exact hc
      · exact h2 c' hc'⟩
theorem nodup_of_map {α β : Type} {f : α → β} : ∀ {l : List α}, (l.map f).Nodup → l.Nodup
  | [], _ => List.Pairwise.nil
  | x :: l, h => by
    have := List.nodup_cons.1 h
    exact List.nodup_cons.2 ⟨fun hx => this.1 (List.mem_map.2 ⟨x, hx, rfl⟩), nodup_of_map this.2⟩
theorem perm_of_sub {l m : List Cert} (hl : l.Nodup) (hs : ∀ c ∈ l, c ∈ m) (hlen : m.length ≤ l.length) : l.Perm m := by
  classical
  induction l generalizing m with
  | nil =>
    have : m = [] := List.length_eq_zero_iff.1 (by simpa using hlen)
    subst this; exact List.Perm.nil
  | cons x l ih =>
    have hx : x ∈ m := hs x (by simp)
    obtain ⟨pre, post, rfl⟩ := List.append_of_mem hx
    have hn := List.nodup_cons.1 hl
    have : l.Perm (pre ++ post) := ih hn.2 (fun c hc => by
      have h1 := hs c (by simp [hc])
      have hne : c ≠ x := fun e => hn.1 (e ▸ hc)
      simp only [List.mem_append, List.mem_cons] at h1 ⊢
      rcases h1 with h1 | h1 | h1
      · exact .inl h1
      · exact absurd h1 hne
      · exact .inr h1) (by simp at hlen ⊢; omega)
    exact (this.cons x).trans List.perm_middle.symm
theorem draw_eval {ops : Array Oper} {orc : List (Nat × Orc)} {S : AS} {R : RS} (h : drawOK P G ops orc S = true) (hR : evalOps P G ops (fun i => (orc.lookup i).getD .no) (List.range ops.size) (rsOf S) = some R) (t : Nat) :
    evalOps P G ops (fun i => (orc.lookup i).getD .no) (Region.schedule (P.follows .mixedOrders) ops t) (rsOf S) = some R ∧ (Region.schedule (P.follows .mixedOrders) ops t).Nodup ∧ ∀ i, i ∈ Region.schedule (P.follows .mixedOrders) ops t ↔ i < ops.size := by
  unfold drawOK at h
  split at h
  case h_2 => cases h
  rename_i cs hcs
  simp only [Bool.and_eq_true] at h
  obtain ⟨⟨hE, hp⟩, hf⟩ := h
  have hf' : P.follows .mixedOrders = true := hf
  have hsch : Region.schedule (P.follows .mixedOrders) ops t = Region.linearise .any ops t := by simp [Region.schedule, hf']
  rw [hsch]
  have hl := linearise_legal hE t
  have hci := certOps_i hcs
  obtain ⟨hch, hsd⟩ := certOps_chain hcs
  have hws := certOps_ws hcs
  have hng : NoGd (rsOf S).ρ := by
    intro t s b x
    simp only [rsOf]
    cases S.env.lookup t <;> simp
  have hnd : (cs.map (·.i)).Nodup := by rw [hci]; exact List.nodup_range
  have htext : evalOps P G ops (fun i => (orc.lookup i).getD .no) (cs.map (·.i)) (rsOf S) = some (runC (rsOf S) cs) := eval_run hch hsd hws hng hnd (fun _ _ => rfl)
  rw [hci, hR] at htext
  cases htext
  obtain ⟨π, hπ, hπm⟩ := reorder hci hl.nodup (fun i hi => (hl.mem i).1 hi)
  have hlen : (Region.linearise .any ops t).length = ops.size := by
    apply Nat.le_antisymm
    · have := nodup_sub_length hl.nodup (m := List.range ops.size) (fun x hx => List.mem_range.2 ((hl.mem x).1 hx))
      simpa using this
    · have := nodup_sub_length List.nodup_range (l := List.range ops.size) (m := Region.linearise .any ops t) (fun x hx => (hl.mem x).2 (List.mem_range.1 hx))
      simpa using this
  have hperm : π.Perm cs := perm_of_sub (nodup_of_map (f := (·.i)) (by rw [hπ]; exact hl.nodup)) hπm (by
    have h1 := congrArg List.length hπ
    have h2 := congrArg List.length hci
    simp at h1 h2; omega)
  have hsorted : cs.Pairwise (fun x p => x.i < p.i) := by
    have : (cs.map (·.i)).Pairwise (· < ·) := by rw [hci]; exact List.pairwise_lt_range
    exact List.pairwise_map.1 this
  have hpair := pairsOk_spec hp
  have hno : ∀ x ∈ cs, ∀ p ∈ cs, x.i < p.i → noConf x p = true ∨ ((masksFrom [] ops.toList).getD p.i 0).testBit x.i = true := by
    intro x hx p hp' hlt
    -- both stand in cs, x first
    obtain ⟨p1, p2, rfl⟩ := List.append_of_mem hx
    rcases List.mem_append.1 hp' with h1 | h1
    · have := (List.pairwise_append.1 hsorted).2.2 p h1 x (by simp)
      omega
    · rcases List.mem_cons.1 h1 with rfl | h1
      · omega
      · exact (List.pairwise_cons.1 (List.pairwise_append.1 hpair).2.1).1 p h1
  have hπpair : π.Pairwise (fun p x => x.i < p.i → noConf x p = true) := by
    rw [List.pairwise_iff_forall_sublist]
    intro p x hsub hlt
    have hp1 := hπm p (hsub.subset (by simp))
    have hx1 := hπm x (hsub.subset (by simp))
    rcases hno x hx1 p hp1 hlt with h1 | h1
    · exact h1
    · exfalso
      have hpi : p.i < ops.size := (hl.mem _).1 (by rw [← hπ]; exact List.mem_map.2 ⟨p, hsub.subset (by simp), rfl⟩)
      have hah := masks_ahead hE hl ops.toList [] (by simp) (by simp) (fun j i hj => by simp at hj) p.i x.i hpi h1
      have hsub2 : [p.i, x.i].Sublist (Region.linearise .any ops t) := by
        rw [← hπ]; exact hsub.map (f := (·.i))
      obtain ⟨pre, post, e, hxi⟩ := hah
      -- p stands before x, and x before p
      have hnod := hl.nodup
      rw [e] at hsub2 hnod
      have hxpost : x.i ∉ p.i :: post := fun h => (List.nodup_append.1 hnod).2.2 _ hxi _ h rfl
      have hppre : p.i ∉ pre := fun h => (List.nodup_append.1 hnod).2.2 _ h _ (by simp) rfl
      obtain ⟨l1, l2, e12, s1, s2⟩ := List.sublist_append_iff.1 hsub2
      cases l1 with
      | nil =>
        simp only [List.nil_append] at e12
        rw [← e12] at s2
        exact hxpost (s2.subset (by simp))
      | cons y l1 =>
        simp only [List.cons_append, List.cons.injEq] at e12
        exact hppre (s1.subset (by rw [e12.1]; simp))
  obtain ⟨h1, h2⟩ := perm_run hperm hsorted hπpair hch
  have := eval_run (P := P) (G := G) (ops := ops) (orc := fun i => (orc.lookup i).getD .no) h1 (fun c hc => hsd c (hπm c hc)) (fun c hc => hws c (hπm c hc)) hng (by rw [hπ]; exact hl.nodup) (fun _ _ => rfl)
  rw [hπ, h2] at this
  exact ⟨this, hl.nodup, hl.mem⟩
theorem sat_drawn {B : Base} {S : AS} {a : Act} {w : World} (h : Sat B S a w) (n : Nat) (hn' : w.drawn ≤ n) : Sat B S a { w with drawn := n } := by
  obtain ⟨γ, H, hO, hE, hn, hd⟩ := h
  exact ⟨γ, H, hO.world rfl rfl rfl ⟨rfl, hn'⟩, hE, hn, hd⟩
theorem draw {T : List Frame → Machine → Prop} {b : Frame} {k : List Item} {id : Nat} {ops : Array Oper} {S : AS} (orc : List (Nat × Orc)) (ts : List Nat) {env : List (Nat × AV)} {own : List OE} {obs : List Prop}
    (hG : GOK G B.H) (hS : Sat B S a w) (h : evReg P G ops orc (List.range ops.size) ts S = some (env, own, obs)) (hok : drawOK P G ops orc S = true) (ho : AllP obs) (hk : ∀ a' w', Sat B ⟨S.n, env, own⟩ a' w' → Runs P T b k a' w') :
    Runs P T b (.code (.region id ops true) :: k) a w := by
  refine runs_draw fun t => ?_
  have hS' := sat_drawn hS (w.drawn + 1) (Nat.le_succ _)
  unfold evReg at h
  split at h
  case h_2 => cases h
  rename_i R hR
  split at h
  case h_2 => cases h
  rename_i env' he
  obtain ⟨hd, h⟩ := cond_some (y := none) h
  cases h
  obtain ⟨h1, h2, h3⟩ := draw_eval hok hR t
  have := evalOps_sound (T := T) (b := b) (k := k) (rest := []) hG hd (rsat_of hS') h1 h2 (fun _ _ => rfl) (fun i hi p hp => allP_mem ho p (List.mem_filterMap.2 ⟨i, List.mem_range.2 ((h3 i).1 hi), hp⟩)) (fun a' w' hS'' => runs_region_end (hk a' w' (sat_of hS'' he)))
  rwa [List.append_nil] at this
end Go.Fw

namespace Go.Fw
variable {P : Program} {B : Base} {γ : List Value} {H : HP} {own : List OE} {w : World} {a : Act} {G : GTab}

def idx : List Nat → Nat → Option Nat
  | [], _ => none
  | s :: σ, i => bif s == i then some 0 else (idx σ i).map (· + 1)
theorem idx_spec : ∀ {σ : List Nat} {i j : Nat}, idx σ i = some j → σ[j]? = some i
  | [], i, j, h => by cases h
  | s :: σ, i, j, h => by
    unfold idx at h
    cases hs : s == i
    · rw [hs] at h; simp only [cond_false] at h
      cases hr : idx σ i with
      | none => rw [hr] at h; cases h
      | some j' => rw [hr] at h; cases h; simpa using idx_spec hr
    · rw [hs] at h; simp only [cond_true, Option.some.injEq] at h; subst h
      simpa using hs
def rnA (σ : List Nat) : AV → AV
  | .osl i => match idx σ i with | some j => .osl j | none => .junk
  | .box i o => match idx σ i with | some j => .box j o | none => .junk
  | .elp i o => match idx σ i with | some j => .elp j o | none => .junk
  | .mp i => match idx σ i with | some j => .mp j | none => .junk
  | .itr i => match idx σ i with | some j => .itr j | none => .junk
  | x => x
def rnO (σ : List Nat) : OE → OE
  | .box h T cs => .box h T (AV.subL (rnA σ) cs)
  | e => e
def selO (σ : List Nat) (own : List OE) : List Nat → Option (List OE)
  | [] => some []
  | s :: τ => match own[s]?, selO σ own τ with
    | some e, some r => some (rnO σ e :: r)
    | _, _ => none
def nodupB : List Nat → Bool
  | [] => true
  | s :: σ => !(σ.any fun t => t == s) && nodupB σ
def selEnv (σ : List Nat) (env : List (Nat × AV)) : List Nat → Option (List (Nat × AV))
  | [] => some []
  | t :: ts => match env.lookup t, selEnv σ env ts with
    | some x, some r => some ((t, AV.sub (rnA σ) x) :: r)
    | _, _ => none
def selS (σ ts : List Nat) (S : AS) : Option AS := match selO σ S.own σ, selEnv σ S.env ts with
  | some own', some env' => bif nodupB σ then some ⟨S.n, env', own'⟩ else none
  | _, _ => none
theorem nodupB_spec : ∀ {σ : List Nat}, nodupB σ = true → σ.Nodup
  | [], _ => List.Pairwise.nil
  | s :: σ, h => by
    simp only [nodupB, Bool.and_eq_true] at h
    refine List.nodup_cons.2 ⟨fun hm => ?_, nodupB_spec h.2⟩
    have := not_any h.1 s hm
    simp at this
theorem selO_spec {σ : List Nat} : ∀ {τ : List Nat} {r : List OE}, selO σ own τ = some r → r.length = τ.length ∧ ∀ (j : Nat) (e' : OE), r[j]? = some e' → ∃ (s : Nat) (e : OE), τ[j]? = some s ∧ own[s]? = some e ∧ e' = rnO σ e
  | [], r, h => by cases h; exact ⟨rfl, by simp⟩
  | s :: τ, r, h => by
    unfold selO at h
    split at h
    · rename_i e r' he hr
      cases h
      obtain ⟨h1, h2⟩ := selO_spec hr
      refine ⟨by simp [h1], fun j e' hj => ?_⟩
      cases j with
      | zero => simp at hj; subst hj; exact ⟨s, e, by simp, he, rfl⟩
      | succ j => simp at hj; simpa using h2 j e' hj
    · cases h
def selγ (γ : List Value) (σ : List Nat) : List Value := σ.map fun s => γ.getD s undef
theorem selγ_get {σ : List Nat} {j s : Nat} {v : Value} (hj : σ[j]? = some s) (hv : γ[s]? = some v) : (selγ γ σ)[j]? = some v := by
  simp [selγ, hj, List.getD, hv]
theorem selγ_inv {σ : List Nat} {j s : Nat} {v : Value} (hj : σ[j]? = some s) (hs : s < γ.length) (hv : (selγ γ σ)[j]? = some v) : γ[s]? = some v := by
  simp [selγ, hj, List.getD] at hv
  rw [List.getElem?_eq_getElem hs] at hv ⊢
  simpa using hv
theorem conc_rn {σ : List Nat} : ∀ (x : AV) (v : Value), x.isRef = true → Conc γ H x v → Conc (selγ γ σ) H (rnA σ x) v := by
  intro x v hx hc
  have ho := one_of_conc hc (by cases x <;> first | rfl | cases hx)
  cases x <;> simp only [AV.isRef, Bool.false_eq_true] at hx <;> simp only [rnA]
  all_goals
    split
    · rename_i j hj
      have hj' := idx_spec hj
      simp only [Conc] at hc ⊢
      first
        | exact ⟨selγ_get hj' hc.1, hc.2⟩
        | (obtain ⟨b, hg, rfl⟩ := hc; exact ⟨b, selγ_get hj' hg, rfl⟩)
        | (obtain ⟨b, n, c, hg, rfl⟩ := hc; exact ⟨b, n, c, selγ_get hj' hg, rfl⟩)
    · simpa only [Conc] using ho
theorem entryOK_rn {σ : List Nat} {j s : Nat} {e : OE} (hj : σ[j]? = some s) (h : EntryOK γ H w s e) : EntryOK (selγ γ σ) H w j (rnO σ e) := by
  cases e with
  | obj h0 o =>
    obtain ⟨b, hg, r⟩ := h
    exact ⟨b, selγ_get hj hg, r⟩
  | box h0 T cs =>
    obtain ⟨b, vs, hg, hb, hl, ho⟩ := h
    exact ⟨b, vs, selγ_get hj hg, hb, concL_sub (HLe.refl H) conc_rn _ _ hl, ho⟩
  | row T k xs =>
    rcases h with ⟨hx, hg⟩ | ⟨b, cap, cs, vs, hg, r⟩
    · exact .inl ⟨hx, selγ_get hj hg⟩
    · exact .inr ⟨b, cap, cs, vs, selγ_get hj hg, r⟩
  | map ks vs =>
    obtain ⟨b, ents, clk, es, hg, r⟩ := h
    exact ⟨b, ents, clk, es, selγ_get hj hg, r⟩
  | iter rk rv cur =>
    obtain ⟨r, b, ents, clk, seen, left, hg, q⟩ := h
    exact ⟨r, b, ents, clk, seen, left, selγ_get hj hg, q⟩
  | gone => trivial
theorem OwnOK.sel (h : OwnOK B γ H own w) {σ : List Nat} {own' : List OE} (ho : selO σ own σ = some own') (hn : σ.Nodup) : OwnOK B (selγ γ σ) H own' w := by
  obtain ⟨hlen, hsp⟩ := selO_spec ho
  have sp : ∀ (j : Nat) (e' : OE), own'[j]? = some e' → e' ≠ .gone → ∃ (s : Nat) (e : OE), σ[j]? = some s ∧ own[s]? = some e ∧ e ≠ .gone ∧ ∀ v, (selγ γ σ)[j]? = some v → γ[s]? = some v := by
    intro j e' hj hne
    obtain ⟨s, e, h1, h2, rfl⟩ := hsp j e' hj
    refine ⟨s, e, h1, h2, by rintro rfl; exact hne rfl, fun v hv => selγ_inv h1 ?_ hv⟩
    rw [h.len]; exact (List.getElem?_eq_some_iff.1 h2).1
  refine ⟨h.os, h.tape, h.output, h.size, h.keep, h.hle, h.hdom, h.fro, by simp [selγ, hlen], fun j e' hj => ?_, fun j e' v b hj hne hv hb => ?_, fun j e' v b hj hne hv hb => ?_, fun j1 j2 e1 e2 v1 v2 b hij h1 h2 n1 n2 g1 g2 b1 => ?_⟩
  · obtain ⟨s, e, h1, h2, rfl⟩ := hsp j e' hj
    exact entryOK_rn h1 (h.ent s e h2)
  · obtain ⟨s, e, h1, h2, h3, h4⟩ := sp j e' hj hne
    exact h.free s e v b h2 h3 (h4 v hv) hb
  · obtain ⟨s, e, h1, h2, h3, h4⟩ := sp j e' hj hne
    exact h.newb s e v b h2 h3 (h4 v hv) hb
  · obtain ⟨s1, f1, q1, q2, q3, q4⟩ := sp j1 e1 h1 n1
    obtain ⟨s2, f2, r1, r2, r3, r4⟩ := sp j2 e2 h2 n2
    exact h.apart s1 s2 f1 f2 v1 v2 b (fun e => by subst e; exact hij (nodup_get hn q1 r1)) q2 r2 q3 r3 (q4 v1 g1) (r4 v2 g2) b1
theorem selEnv_ok {σ : List Nat} {env : List (Nat × AV)} {tmps : Array Value} (hE : EnvOK γ H env tmps) : ∀ {ts : List Nat} {env' : List (Nat × AV)}, selEnv σ env ts = some env' → EnvOK (selγ γ σ) H env' tmps
  | [], env', he => by cases he; intro p hp; simp at hp
  | t :: ts, env', he => by
    unfold selEnv at he
    split at he
    · rename_i x r hx hr
      cases he
      intro p hp
      rcases List.mem_cons.1 hp with rfl | hp
      · obtain ⟨v, hv, hc⟩ := hE _ (lookup_mem hx)
        exact ⟨v, hv, conc_sub (HLe.refl H) conc_rn _ _ hc⟩
      · exact selEnv_ok hE hr p hp
    · cases he
theorem Sat.sel {S S' : AS} (hS : Sat B S a w) (σ ts : List Nat) (h : selS σ ts S = some S') : Sat B S' a w := by
  obtain ⟨γ, H, hO, hE, hn, hd⟩ := hS
  unfold selS at h
  split at h
  case h_2 => cases h
  rename_i own' env' ho he
  obtain ⟨hnd, h⟩ := cond_some (y := none) h
  cases h
  refine ⟨selγ γ σ, H, hO.sel ho (nodupB_spec hnd), ?_, hn, hd⟩
  exact selEnv_ok hE he
def frzA (i : Nat) (e : OE) : AV → AV
  | .osl j => bif j == i then (match e with | .row _ _ xs => .sl xs | _ => .osl j) else .osl j
  | .mp j => bif j == i then (match e with | .map ks vs => .fm ks vs | _ => .mp j) else .mp j
  | .box j o => bif j == i then (match e with | .box _ _ cs => bif AV.closedL cs then .fp cs o else .box j o | _ => .box j o) else .box j o
  | x => x
def frzO (i : Nat) (e : OE) : OE → OE
  | .box h T cs => .box h T (AV.subL (frzA i e) cs)
  | e' => e'
def frzS (i : Nat) (S : AS) : Option AS := match S.own[i]? with
  | some e => match e with
    | .gone => none
    | e => some ⟨S.n, S.env.map (fun p => (p.1, AV.sub (frzA i e) p.2)), (S.own.set i .gone).map (frzO i e)⟩
  | none => none
theorem Sat.frz {S S' : AS} (hS : Sat B S a w) (hB : B.γ = []) (i : Nat) (h : frzS i S = some S') : Sat B S' a w := by
  obtain ⟨γ, H, hO, hE, hn, hd⟩ := hS
  unfold frzS at h
  split at h
  case h_2 => cases h
  rename_i e he
  have hne : e ≠ .gone := by rintro rfl; cases h
  have h' : S' = ⟨S.n, S.env.map (fun p => (p.1, AV.sub (frzA i e) p.2)), (S.own.set i .gone).map (frzO i e)⟩ := by
    cases e <;> first | exact absurd rfl hne | (cases h; rfl)
  subst h'
  clear h
  -- the block, if any
  obtain ⟨v, hv⟩ : ∃ v, γ[i]? = some v := ⟨γ[i]'(by rw [hO.len]; exact (List.getElem?_eq_some_iff.1 he).1), by simp⟩
  obtain ⟨H', hH, hdom, hfro, hfree, hblkH⟩ : ∃ H', HLe H H' ∧ (∀ b o, H' b = some o → b < B.w.heap.size → B.H b = some o) ∧ (∀ b o, H' b = some o → w.heap[b]? = some o) ∧
      (∀ b, H b = none → (hblk v ≠ some b) → H' b = none) ∧ (∀ b o, hblk v = some b → w.heap[b]? = some o → H' b = some o) := by
    cases hb : hblk v with
    | none => exact ⟨H, HLe.refl H, hO.hdom, hO.fro, fun b hb' _ => hb', fun b o e => by cases e⟩
    | some b =>
      have hlt := entryOK_blk (hO.ent i e he) hne hv hb
      have hHb := hO.free i e v b he hne hv hb
      refine ⟨H.put b w.heap[b], HP.put_le H hHb, fun b' o h1 h2 => ?_, fun b' o h1 => ?_, fun b' h1 h2 => ?_, fun b' o h1 h2 => ?_⟩
      · unfold HP.put at h1
        split at h1
        · rename_i e1; subst e1
          rcases hO.newb i e v b' he hne hv hb with h3 | ⟨u, hu, _⟩
          · omega
          · rw [hB] at hu; simp at hu
        · exact hO.hdom b' o h1 h2
      · unfold HP.put at h1
        split at h1
        · rename_i e1; subst e1; cases h1; simp [hlt]
        · exact hO.fro b' o h1
      · unfold HP.put; rw [if_neg (by rintro rfl; exact h2 rfl)]; exact h1
      · cases h1
        rw [Array.getElem?_eq_getElem hlt] at h2; cases h2
        exact HP.put_same _ _ _
  have hconc : ∀ x u, x.isRef = true → Conc γ H x u → Conc γ H' (frzA i e x) u := by
    intro x u hx hc
    have base := conc_mono hH (Ext.refl γ) hc
    cases x <;> simp only [AV.isRef, Bool.false_eq_true] at hx <;> simp only [frzA]
    · rename_i j
      cases hj : j == i
      · simpa using base
      · simp only [cond_true]
        have : j = i := by simpa using hj
        subst this
        split
        · rename_i T k xs
          simp only [Conc] at hc
          rw [hv] at hc; cases hc.1
          rcases hO.ent j _ he with ⟨hxs, hg'⟩ | ⟨b, cap, cs, vs, hg', hcap, hcm, hb, hsz, hl, hk, ho, hs⟩
          · rw [hv] at hg'; cases hg'; subst hxs
            simp only [Conc]; exact ⟨none, 0, k, [], rfl, Nat.le_refl _, rfl, by simp, by simp⟩
          · rw [hv] at hg'; cases hg'
            simp only [Conc]
            exact ⟨_, cap, k, vs, rfl, hcap, concL_closed hH _ _ hl, hk, fun _ => ⟨b, 0, cs, T, (0, 0), rfl, hblkH b _ rfl hb, hs⟩⟩
        · exact base
    · rename_i j o
      cases hj : j == i
      · simpa using base
      · simp only [cond_true]
        have : j = i := by simpa using hj
        subst this
        split
        · rename_i h0 T cs
          cases hcl : AV.closedL cs
          · simpa using base
          · simp only [cond_true]
            simp only [Conc] at hc ⊢
            obtain ⟨b, hg, rfl⟩ := hc
            obtain ⟨b', vs, hg', hb, hl, ho⟩ := hO.ent j _ he
            rw [hg] at hg'; cases hg'
            rw [hv] at hg; cases hg
            exact ⟨b, 0, ⟨vs⟩, T, (0, 0), vs, by simp, hblkH b _ rfl hb, concL_closed hH _ _ (concL_close _ _ hcl hl), fun j hj => by simp⟩
        · exact base
    · exact base
    · rename_i j
      cases hj : j == i
      · simpa using base
      · simp only [cond_true]
        have : j = i := by simpa using hj
        subst this
        split
        · rename_i ks vs
          simp only [Conc] at hc ⊢
          obtain ⟨hg, b0, rfl⟩ := hc
          obtain ⟨b, ents, clk, es, hg', ⟨hb, hn', hlt⟩, hp, hk, hvs⟩ := hO.ent j _ he
          rw [hg] at hg'; cases hg'
          rw [hv] at hg; cases hg
          exact ⟨_, ents, clk, es, rfl, hblkH _ _ rfl hb, hp, concL_closed hH _ _ hk, concL_closed hH _ _ hvs, hn', hlt⟩
        · exact base
    · exact base
  have sp : ∀ (j : Nat) (e' : OE), ((S.own.set i .gone).map (frzO i e))[j]? = some e' → ∃ e0 : OE, (S.own.set i .gone)[j]? = some e0 ∧ e' = frzO i e e0 := by
    intro j e' hj
    simp only [List.getElem?_map, Option.map_eq_some_iff] at hj
    obtain ⟨e0, h0, rfl⟩ := hj
    exact ⟨e0, h0, rfl⟩
  have sp' : ∀ (j : Nat) (e' : OE), ((S.own.set i .gone).map (frzO i e))[j]? = some e' → e' ≠ .gone → ∃ e0 : OE, j ≠ i ∧ S.own[j]? = some e0 ∧ e0 ≠ .gone := by
    intro j e' hj hne'
    obtain ⟨e0, h0, rfl⟩ := sp j e' hj
    have hn0 : e0 ≠ .gone := by rintro rfl; exact hne' rfl
    obtain ⟨h1, h2⟩ := getElem?_set_gone h0 hn0
    exact ⟨e0, h1, h2, hn0⟩
  refine ⟨γ, H', ⟨hO.os, hO.tape, hO.output, hO.size, hO.keep, fun b o hb => hH _ _ (hO.hle _ _ hb), hdom, hfro, by simp [hO.len], fun j e' hj => ?_, fun j e' u b hj hnj hu hb => ?_, fun j e' u b hj hnj hu hb => ?_, fun j1 j2 e1 e2 u1 u2 b hij h1 h2 n1 n2 g1 g2 b1 => ?_⟩, ?_, hn, hd⟩
  · obtain ⟨e0, h0, rfl⟩ := sp j e' hj
    by_cases hg : e0 = .gone
    · subst hg; trivial
    obtain ⟨hji, h2⟩ := getElem?_set_gone h0 hg
    have hold := entryOK_map (w := w) (b := w.heap.size) (Ext.refl γ) hH (fun k o _ hk => hk) (fun hnej u hu hb => by have := entryOK_blk (hO.ent j e0 h2) hnej hu hb; omega) (hO.ent j e0 h2)
    cases e0 with
    | obj h0 o => exact hold
    | box h0 T cs =>
      obtain ⟨b, vs, hg', hb, hl, ho⟩ := hO.ent j _ h2
      exact ⟨b, vs, hg', hb, concL_sub hH hconc _ _ hl, ho⟩
    | row T k xs => exact hold
    | map ks vs => exact hold
    | iter rk rv cur => exact hold
    | gone => trivial
  · obtain ⟨e0, hji, h0, hn0⟩ := sp' j e' hj hnj
    refine hfree b (hO.free j e0 u b h0 hn0 hu hb) (fun hvb => hO.apart i j e e0 v u b (Ne.symm hji) he h0 hne hn0 hv hu hvb hb)
  · obtain ⟨e0, hji, h0, hn0⟩ := sp' j e' hj hnj
    exact hO.newb j e0 u b h0 hn0 hu hb
  · obtain ⟨f1, _, q1, q2⟩ := sp' j1 e1 h1 n1
    obtain ⟨f2, _, r1, r2⟩ := sp' j2 e2 h2 n2
    exact hO.apart j1 j2 f1 f2 u1 u2 b hij q1 r1 q2 r2 g1 g2 b1
  · intro p hp
    obtain ⟨q, hq, rfl⟩ := List.mem_map.1 hp
    obtain ⟨u, hu, hc⟩ := hE q hq
    exact ⟨u, hu, conc_sub hH hconc _ _ hc⟩
def nilS (i c T k : Nat) (S : AS) : Option AS := match S.own[i]? with
  | some (.box h0 T0 cs) => match cs[c]? with
    | some .nsl => some ⟨S.n, S.env, S.own.set i (.box h0 T0 (cs.set c (.osl S.own.length))) ++ [.row T k []]⟩
    | _ => none
  | _ => none
theorem Sat.nilcell {S S' : AS} (hS : Sat B S a w) (i c T k : Nat) (h : nilS i c T k S = some S') : Sat B S' a w := by
  obtain ⟨γ, H, hO, hE, hn, hd⟩ := hS
  unfold nilS at h
  split at h
  case h_2 => cases h
  rename_i h0 T0 cs hi
  split at h
  case h_2 => cases h
  rename_i hc
  cases h
  have h1 := hO.nilrow T k
  have hlt := (List.getElem?_eq_some_iff.1 hi).1
  obtain ⟨b, vs, hg, hb, hl, ho⟩ := hO.ent i _ hi
  have hi' : (S.own ++ [OE.row T k []])[i]? = some (.box h0 T0 cs) := by rw [List.getElem?_append_left hlt]; exact hi
  have hg' : (γ ++ [.slice none 0 0])[i]? = some (.pointer (some ⟨b, 0, none⟩)) := by rw [List.getElem?_append_left (by rw [hO.len]; exact hlt)]; exact hg
  have h2 := h1.upd (w' := w) (e' := .box h0 T0 (cs.set c (.osl S.own.length))) hi' (by simp) hg' rfl (fun _ _ => rfl) rfl rfl rfl rfl ?_
  · rw [List.set_append_left _ _ hlt] at h2
    refine ⟨_, H, h2, fun p hp => ?_, hn, hd⟩
    obtain ⟨v, hv, hcv⟩ := hE p hp
    exact ⟨v, hv, conc_mono (HLe.refl H) (Ext.snoc γ _) hcv⟩
  · refine ⟨b, vs, hg', hb, ?_, ho⟩
    have hl' := concL_mono (HLe.refl H) (Ext.snoc γ (.slice none 0 0)) hl
    obtain ⟨v, hv, hcv⟩ := concL_get hl' hc
    simp only [Conc] at hcv
    subst hcv
    have := concL_set (i := c) (x := .osl S.own.length) (v := .slice none 0 0) hl' (by simp only [Conc]; exact ⟨by rw [← hO.len]; simp, _, _, _, rfl⟩)
    have hvs : vs.set c (.slice none 0 0) = vs := by
      apply List.ext_getElem?
      intro m
      rw [List.getElem?_set]
      split
      · rename_i hm; subst hm
        split
        · exact hv.symm
        · rename_i hlen; have := (List.getElem?_eq_some_iff.1 hv).1; omega
      · rfl
    rwa [hvs] at this
theorem concL_zip_perm {ks vs ks' vs' : List AV} {es : List MapEntry} (hk : ConcL γ H ks (es.map (·.key))) (hv : ConcL γ H vs (es.map (·.val))) (hp : (ks.zip vs).Perm (ks'.zip vs')) (hl : ks'.length = vs'.length) :
    ∃ es' : List MapEntry, es'.Perm es ∧ ConcL γ H ks' (es'.map (·.key)) ∧ ConcL γ H vs' (es'.map (·.val)) := by
  have gen : ∀ {l l' : List (AV × AV)}, l.Perm l' → ∀ es : List MapEntry, ConcL γ H (l.map (·.1)) (es.map (·.key)) → ConcL γ H (l.map (·.2)) (es.map (·.val)) →
      ∃ es' : List MapEntry, es'.Perm es ∧ ConcL γ H (l'.map (·.1)) (es'.map (·.key)) ∧ ConcL γ H (l'.map (·.2)) (es'.map (·.val)) := by
    intro l l' h
    induction h with
    | nil => intro es h1 h2; exact ⟨es, List.Perm.refl _, h1, h2⟩
    | cons x _ ih =>
      intro es h1 h2
      cases es with
      | nil => simp [ConcL] at h1
      | cons e es =>
        simp only [List.map_cons] at h1 h2
        obtain ⟨q1, q2⟩ := concL_cons.1 h1
        obtain ⟨r1, r2⟩ := concL_cons.1 h2
        obtain ⟨es', p1, p2, p3⟩ := ih es q2 r2
        exact ⟨e :: es', p1.cons e, concL_cons.2 ⟨q1, p2⟩, concL_cons.2 ⟨r1, p3⟩⟩
    | swap x y l =>
      intro es h1 h2
      match es with
      | [] => simp [ConcL] at h1
      | [e] =>
        have := concL_length h1
        simp at this
      | e1 :: e2 :: es =>
        simp only [List.map_cons] at h1 h2
        obtain ⟨q1, q2⟩ := concL_cons.1 h1
        obtain ⟨q2, q3⟩ := concL_cons.1 q2
        obtain ⟨r1, r2⟩ := concL_cons.1 h2
        obtain ⟨r2, r3⟩ := concL_cons.1 r2
        exact ⟨e2 :: e1 :: es, List.Perm.swap _ _ _, concL_cons.2 ⟨q2, concL_cons.2 ⟨q1, q3⟩⟩, concL_cons.2 ⟨r2, concL_cons.2 ⟨r1, r3⟩⟩⟩
    | trans _ _ ih1 ih2 =>
      intro es h1 h2
      obtain ⟨es1, p1, p2, p3⟩ := ih1 es h1 h2
      obtain ⟨es2, q1, q2, q3⟩ := ih2 es1 p2 p3
      exact ⟨es2, q1.trans p1, q2, q3⟩
  have l1 := concL_length hk
  have l2 := concL_length hv
  simp only [List.length_map] at l1 l2
  have z1 : (ks.zip vs).map (·.1) = ks := List.map_fst_zip (by omega)
  have z2 : (ks.zip vs).map (·.2) = vs := List.map_snd_zip (by omega)
  have z3 : (ks'.zip vs').map (·.1) = ks' := List.map_fst_zip (by omega)
  have z4 : (ks'.zip vs').map (·.2) = vs' := List.map_snd_zip (by omega)
  have := gen hp es (by rw [z1]; exact hk) (by rw [z2]; exact hv)
  rwa [z3, z4] at this
theorem Sat.perm {S : AS} (hS : Sat B S a w) (i : Nat) {ks vs ks' vs' : List AV} (hi : S.own[i]? = some (.map ks vs)) (hp : (ks.zip vs).Perm (ks'.zip vs')) (hl : ks'.length = vs'.length) : Sat B ⟨S.n, S.env, S.own.set i (.map ks' vs')⟩ a w := by
  obtain ⟨γ, H, hO, hE, hn, hd⟩ := hS
  obtain ⟨b, ents, clk, es, hg, hm, hpe, hk, hv⟩ := hO.ent i _ hi
  obtain ⟨es', p1, p2, p3⟩ := concL_zip_perm hk hv hp hl
  exact ⟨γ, H, hO.upd (w' := w) hi (by simp) hg rfl (fun _ _ => rfl) rfl rfl rfl rfl ⟨b, ents, clk, es', hg, hm, p1.trans hpe, p2, p3⟩, hE, hn, hd⟩
theorem OwnOK.leaveF (hO : OwnOK B γ H own w) (hB : B.γ = []) : OwnOK ⟨B.w, B.H, [], []⟩ [] (hold γ H own w) [] w := by
  refine ⟨hO.os, hO.tape, hO.output, hO.size, fun b hb _ => hO.keep b hb (by rw [hB]; simp), fun b o hb => hold_le hO _ _ (hO.hle _ _ hb), fun b o hb hlt => ?_, fun b o hb => hold_sub hO _ _ hb, rfl, fun i e h => by simp at h, fun i e v b h => by simp at h, fun i e v b h => by simp at h, fun i j e e' v v' b _ h => by simp at h⟩
  unfold hold at hb
  split at hb
  · rename_i hx
    obtain ⟨i, e, v, hi, hne, hv, hbv⟩ := hx
    rcases hO.newb i e v b hi hne hv hbv with h3 | ⟨u, hu, _⟩
    · have h4 : b < B.w.heap.size := hlt
      omega
    · rw [hB] at hu; simp at hu
  · exact hO.hdom b o hb hlt
def retFz (P : Program) (S : AS) (rs : List ResultVar) : Option AV := (retAV P S rs).map fun x => (AV.sub (frz1 S.own) x).wkn
theorem retOK_of' {S : AS} {fn : Func} {r : AV} (hS : Sat B S a w) (hB : B.γ = []) (hBd : B.df = []) (h : retFz P S fn.results.toList = some r) (hr : r.closed = true) :
    a.defers = [] ∧ ∃ v, (results fn a.tmps).run P w = .ok v w ∧ RetOK B.w B.H r (.returned v) w := by
  obtain ⟨γ, H, hO, hE, hn, hd⟩ := hS
  unfold retFz at h
  cases hx : retAV P S fn.results.toList with
  | none => rw [hx] at h; cases h
  | some x =>
    rw [hx] at h; simp only [Option.map_some, Option.some.injEq] at h; subst h
    obtain ⟨v, hv, hc⟩ := results_run hO hE hx
    refine ⟨hd.trans hBd, v, hv, v, rfl, hold γ H S.own w, hO.leaveF hB, conc_close (γ := γ) _ _ hr ?_⟩
    exact conc_wkn (γ := γ) _ _ (conc_sub (hold_le hO) (conc_frz1 hO) _ _ hc)
theorem retz {b : Frame} {k : List Item} {f : FuncId} {fn : Func} {S : AS} {r : AV} (hf : P.funcs[f]? = some fn) (hb : b = { (default : Frame) with fn := f, kind := .normal, roundOf := none }) (hB : B.γ = []) (hBd : B.df = [])
    (hS : Sat B S a w) (h : retFz P S fn.results.toList = some r) (hr : r.closed = true) : Runs P (RetT P f B r) b (.code .ret :: k) a w := by
  obtain ⟨hd, v, hv, hR⟩ := retOK_of' (P := P) hS hB hBd h hr
  subst hb
  exact runs_ret rfl rfl rfl hf hd hv hR
theorem region_next {T : List Frame → Machine → Prop} {b : Frame} {k : List Item} {id : Nat} {ops : Array Oper} {S : AS} {o : Oper} {t d i : Nat} {rk rv : List AV} {cur : Option (AV × AV)} (hS : Sat B S a w) (ho : ops[0]? = some o) (hop : o.op = .next (.tmp t) false) (hg : o.guard = none) (hdst : o.dst = some d)
    (hd : Nat.blt d S.n = true) (ht : S.env.lookup t = some (.itr i)) (hi : S.own[i]? = some (.iter rk rv cur)) (hsz : List.range ops.size = 0 :: (List.range ops.size).tail)
    (h0 : rk = [] → ∀ a' w', Sat B ⟨S.n, (d, .tup [.bool false]) :: S.env.filter (fun p => !(p.1 == d)), S.own⟩ a' w' → Runs P T b (.inRegion ops (List.range ops.size).tail :: k) a' w')
    (h1 : ∀ (j : Nat) (x y : AV), rk[j]? = some x → rv[j]? = some y → ∀ a' w', Sat B ⟨S.n, (d, .tup [.bool true, x, y]) :: S.env.filter (fun p => !(p.1 == d)), S.own.set i (.iter (rk.eraseIdx j) (rv.eraseIdx j) (some (x, y)))⟩ a' w' → Runs P T b (.inRegion ops (List.range ops.size).tail :: k) a' w') :
    Runs P T b (.code (.region id ops false) :: k) a w := by
  refine runs_region ?_
  rw [hsz]
  obtain ⟨γ, H, hO, hE, hn, hdf⟩ := hS
  obtain ⟨v, hv, hc⟩ := hE _ (lookup_mem ht)
  have hev : a.eval (.tmp t) = v := by simp [Act.eval, Array.getD_eq_getD_getElem?, hv]
  have hdn : d < a.tmps.size := by rw [hn]; simpa [Nat.blt_eq] using hd
  have put : ∀ {γ' : List Value} {H' : HP} {own' : List OE} {r : AV} {u : Value} {w' : World}, Ext γ γ' → HLe H H' → OwnOK B γ' H' own' w' → Conc γ' H' r u → Sat B ⟨S.n, (d, r) :: S.env.filter (fun p => !(p.1 == d)), own'⟩ (a.put o.dst u) w' := by
    intro γ' H' own' r u w' hγ hH hO' hc'
    rw [hdst]
    refine ⟨γ', H', hO', fun p hp => ?_, by rw [put_size]; exact hn, by rw [put_defers]; exact hdf⟩
    rcases List.mem_cons.1 hp with rfl | hp
    · exact ⟨u, by rw [put_get, if_pos rfl, if_pos hdn], hc'⟩
    · obtain ⟨hp1, hp2⟩ := List.mem_filter.1 hp
      obtain ⟨u', hu', hcu⟩ := hE p hp1
      have hne : p.1 ≠ d := by simpa using hp2
      exact ⟨u', by rw [put_get, if_neg hne]; exact hu', conc_mono hH hγ hcu⟩
  refine runs_exec ho (by simp [Region.wanted, hg]) (ex_next hop hO (by rw [hev]; exact hc) hi) ?_
  rintro u w' (⟨hnil, γ', H', hγ, hH, hO', hc'⟩ | ⟨j, x, y, hx, hy, γ', H', hγ, hH, hO', hc'⟩)
  · exact h0 hnil _ _ (put hγ hH hO' hc')
  · exact h1 j x y hx hy _ _ (put hγ hH hO' hc')
end Go.Fw

namespace Go.Fw
variable {P : Program} {B : Base} {γ : List Value} {H : HP} {own : List OE} {w : World} {a : Act} {G : GTab}

def Grow (w : World) (H : HP) (w' : World) (H' : HP) : Prop := OwnOK ⟨w, H, [], []⟩ [] H' [] w'
def RoundC (P : Program) (l : Nat) (us : List Value) (w : World) (R : World → Prop) : Prop := ∃ f tmps assign body, (Instr.yield l ⟨us⟩).run P w = .ok (.round l f tmps assign body) w ∧
  ∀ c cs, ∃ w', R w' ∧ Steps P (lone (Frame.round l f tmps assign body .normal) (c :: cs) w) (lone (c.finish (.bool true)) cs w')
abbrev YieldRule (P : Program) (G : GTab) (l : Nat) (elems : List (List AV)) (I : Nat → World → HP → Prop) : Prop :=
  ∀ (j : Nat) (e : List AV) (w : World) (H : HP) (us : List Value), elems[j]? = some e → I j w H → HLe H (fun b => w.heap[b]?) → GOK G H → ConcL [] H e us → RoundC P l us w fun w' => ∃ H', HLe H H' ∧ HLe H' (fun b => w'.heap[b]?) ∧ I (j + 1) w' H'
abbrev Stable (I : Nat → World → HP → Prop) : Prop := ∀ (j : Nat) (w : World) (H : HP) (w' : World) (H' : HP), I j w H → Grow w H w' H' → I j w' H'
def IterA (P : Program) (G : GTab) (f : FuncId) (pre post : List AV) (elems : List (List AV)) : Prop := BodyOK P f ∧
  ∀ (l : Nat) (I : Nat → World → HP → Prop) (w : World) (H : HP) (ps qs : List Value), Stable I → YieldRule P G l elems I → I 0 w H → HLe H (fun b => w.heap[b]?) → GOK G H → ConcL [] H pre ps → ConcL [] H post qs →
    Calls P f ⟨ps ++ [.func (.yield l) #[] #[]] ++ qs⟩ w fun e w' => ∃ v, e = .returned v ∧ ∃ H', HLe H' (fun b => w'.heap[b]?) ∧ I elems.length w' H'
abbrev IterT (P : Program) (f : FuncId) (I : World → HP → Prop) : List Frame → Machine → Prop :=
  Leaves P f fun e w' => ∃ v, e = .returned v ∧ ∃ H', HLe H' (fun b => w'.heap[b]?) ∧ I w' H'
theorem grow_of (hO : OwnOK B γ H own w) (hB : B.γ = []) : Grow B.w B.H w (hold γ H own w) := hO.leaveF hB
theorem conc_held (hO : OwnOK B γ H own w) {x : AV} {v : Value} (hx : x.closed = true) (hc : Conc γ H x v) : Conc [] (hold γ H own w) x v :=
  conc_closed (hold_le hO) _ _ (conc_close _ _ hx hc)
theorem envR_of {S : AS} {tmps : Array Value} (hE : EnvOK γ H S.env tmps) : EnvR γ H (rsOf S).ρ tmps := fun t e ht => by
  simp only [rsOf] at ht
  cases hl : S.env.lookup t with
  | none => rw [hl] at ht; cases ht
  | some x =>
    rw [hl] at ht; cases ht
    exact hE _ (lookup_mem hl)
theorem op_yield {T : List Frame → Machine → Prop} {b : Frame} {k : List Item} {ops : Array Oper} {i : Nat} {rest : List Nat} {o : Oper} {S : AS} {l t d j : Nat} {xs : Array Operand} {tys : Array TypeId} {e : List AV} {elems : List (List AV)} {I : Nat → World → HP → Prop}
    (hS : Sat B S a w) (hB : B.γ = []) (hBd : B.df = []) (hG : GOK G B.H) (hI : I j B.w B.H) (hst : Stable I) (hr : YieldRule P G l elems I) (he : elems[j]? = some e)
    (ho : ops[i]? = some o) (hop : o.op = .call { callee := .value (.tmp t), args := xs, argTypes := tys }) (hdst : o.dst = some d) (hd : Nat.blt d S.n = true)
    (hw : match o.guard with
      | none => True
      | some (q, want) => ∃ s, (ops[q]?).bind (·.dst) = some s ∧ S.env.lookup s = some (.bool want))
    (ht : S.env.lookup t = some (.fn (.yield l) [] [])) (hxs : opnds G (rsOf S).ρ none xs.toList = some e) (hcl : AV.closedL e = true) (hce : S.env.all (fun p => p.2.closed) = true)
    (hk : ∀ (B' : Base) (a' : Act), B'.γ = [] → B'.df = [] → GOK G B'.H → I (j + 1) B'.w B'.H → Sat B' ⟨S.n, (d, .bool true) :: S.env.filter (fun p => !(p.1 == d)), []⟩ a' B'.w → Runs P T b (.inRegion ops rest :: k) a' B'.w) :
    Runs P T b (.inRegion ops (i :: rest) :: k) a w := fun cs => by
  obtain ⟨γ, H, hO, hE, hn, hdf⟩ := hS
  have hwant : Region.wanted o (yielded ops a.tmps) = true := by
    cases hg : o.guard with
    | none => simp [Region.wanted, hg]
    | some p =>
      obtain ⟨q, want⟩ := p
      rw [hg] at hw
      obtain ⟨s, hs, hl⟩ := hw
      obtain ⟨v, hv, hc⟩ := hE _ (lookup_mem hl)
      have hv' := conc_bool.1 hc
      subst hv'
      simp [Region.wanted, hg, yielded_of hs hv]
  obtain ⟨v, hv, hc⟩ := hE _ (lookup_mem ht)
  simp only [Conc] at hc
  obtain ⟨ws, us, rfl, hws, hus⟩ := hc
  have e1 : ws = [] := hws
  have e2 : us = [] := hus
  subst e1 e2
  have hev : a.eval (.tmp t) = .func (.yield l) #[] #[] := by simp [Act.eval, Array.getD_eq_getD_getElem?, hv]
  have hargs := opnds_sound (γ := γ) (H := H) (a := a) (g := none) (envR_of hE) (fun _ _ h => by cases h) (hG.here hO) hxs
  -- the world here, all held
  have hgr := grow_of hO hB
  have hI' := hst j _ _ _ _ hI hgr
  have hc' : ConcL [] (hold γ H S.own w) e (xs.toList.map a.eval) := concL_closed (hold_le hO) _ _ (concL_close _ _ hcl hargs)
  obtain ⟨f, tmps, assign, body, hy, hround⟩ := hr j e w _ _ he hI' (hold_sub hO) (hG.mono (HLe.trans (fun b o h => hO.hle b o h) (hold_le hO))) hc'
  obtain ⟨w', ⟨H', hH', hsub', hIn⟩, hsteps⟩ := hround (b.atR a (.inRegion ops (i :: rest) :: k)) cs
  have hrun : (o.semAt b.roundOf a.eval).run P w = .ok (.round l f tmps assign body) w := by
    rw [semAt_of hop (by simp)]
    have : (#[] ++ Array.map a.eval xs ++ #[] : Array Value) = ⟨xs.toList.map a.eval⟩ := by apply Array.ext'; simp
    simp only [execOp, hop, resolve, Sem.run_bind, Deferred.ofValue, hev, Sem.run_pure, Result.andThen_ok, invoke]
    have hy' : (Instr.yield l (Array.map a.eval xs)).run P w = .ok (.round l f tmps assign body) w := by
      have e : (⟨xs.toList.map a.eval⟩ : Array Value) = Array.map a.eval xs := by apply Array.ext'; simp
      rw [← e]; exact hy
    simpa using hy'
  have henter : Go.step P (lone (b.atR a (.inRegion ops (i :: rest) :: k)) cs w) = .next (lone (Frame.round l f tmps assign body .normal) (b.atR a (.inRegion ops (i :: rest) :: k) :: cs) w) :=
    step_lone_go (by rw [stepGR_op ho hwant]; simp [stepG.apply, Sem.runT_eq, hrun, Frame.atR])
  have hfin : (b.atR a (.inRegion ops (i :: rest) :: k)).finish (.bool true) = b.atR (a.put o.dst (.bool true)) (.inRegion ops rest :: k) := by rw [Frame.finish_atR, ho]; rfl
  rw [hfin] at hsteps
  have hdn : d < a.tmps.size := by rw [hn]; simpa [Nat.blt_eq] using hd
  have hsat : Sat ⟨w', H', [], []⟩ ⟨S.n, (d, .bool true) :: S.env.filter (fun p => !(p.1 == d)), []⟩ (a.put o.dst (.bool true)) w' := by
    refine ⟨[], H', ⟨rfl, rfl, Fwd.refl _, Nat.le_refl _, fun _ _ _ => rfl, fun _ _ h => h, fun _ _ h _ => h, hsub', rfl, fun i e h => by simp at h, fun i e v b h => by simp at h, fun i e v b h => by simp at h, fun i j e e' v v' b _ h => by simp at h⟩, fun p hp => ?_, by rw [put_size]; exact hn, by rw [put_defers, hdf, hBd]⟩
    rw [hdst]
    rcases List.mem_cons.1 hp with rfl | hp
    · exact ⟨.bool true, by rw [put_get, if_pos rfl, if_pos hdn], conc_bool.2 rfl⟩
    · obtain ⟨hp1, hp2⟩ := List.mem_filter.1 hp
      obtain ⟨u', hu', hcu⟩ := hE p hp1
      have hne : p.1 ≠ d := by simpa using hp2
      have hpc : p.2.closed = true := List.all_eq_true.1 hce p hp1
      exact ⟨u', by rw [put_get, if_neg hne]; exact hu', conc_closed hH' _ _ (conc_held hO hpc hcu)⟩
  obtain ⟨m, hT, hs2⟩ := hk ⟨w', H', [], []⟩ (a.put o.dst (.bool true)) rfl rfl (hG.mono (HLe.trans (HLe.trans (fun b o h => hO.hle b o h) (hold_le hO)) hH')) hIn hsat cs
  exact ⟨m, hT, .head henter (Steps.trans hsteps hs2)⟩
theorem iter_ret {b : Frame} {k : List Item} {f : FuncId} {fn : Func} {S : AS} {I : Nat → World → HP → Prop} {n : Nat} (hf : P.funcs[f]? = some fn) (hb : b = { (default : Frame) with fn := f, kind := .normal, roundOf := none }) (hB : B.γ = []) (hBd : B.df = [])
    (hS : Sat B S a w) (hst : Stable I) (hI : I n B.w B.H) (h : (retAV P S fn.results.toList).isSome = true) : Runs P (IterT P f (I n)) b (.code .ret :: k) a w ∧ Runs P (IterT P f (I n)) b [] a w := by
  obtain ⟨γ, H, hO, hE, hn, hd⟩ := hS
  obtain ⟨x, hx⟩ := Option.isSome_iff_exists.1 h
  obtain ⟨v, hv, hc⟩ := results_run hO hE hx
  subst hb
  have hR : ∃ v', Ending.returned v = .returned v' ∧ ∃ H', HLe H' (fun b => w.heap[b]?) ∧ I n w H' := ⟨v, rfl, hold γ H S.own w, hold_sub hO, hst n _ _ _ _ hI (grow_of hO hB)⟩
  exact ⟨runs_ret rfl rfl rfl hf (hd.trans hBd) hv hR, runs_end rfl rfl rfl hf (hd.trans hBd) hv hR⟩
theorem iterA_of {f : FuncId} {fn : Func} {c : Code} {pre post : List AV} {elems : List (List AV)} (hf : P.funcs[f]? = some fn) (hc : fn.body = some c) (hn : fn.name ≠ "runtime.NumGoroutine") (hle : Nat.ble (pre.length + 1 + post.length) fn.ntmps = true)
    (h : ∀ (l : Nat) (I : Nat → World → HP → Prop) (B : Base) (a : Act), Stable I → YieldRule P G l elems I → I 0 B.w B.H → B.γ = [] → B.df = [] → GOK G B.H → Sat B ⟨fn.ntmps, zipFrom 0 (pre ++ [.fn (.yield l) [] []] ++ post), []⟩ a B.w →
      Runs P (IterT P f (I elems.length)) (frameOf f) [.code c] a B.w) : IterA P G f pre post elems := by
  refine ⟨⟨fn, hf, by rw [hc]; rfl, hn⟩, fun l I w H ps qs hst hy hI hsub hG hps hqs => ?_⟩
  have hle' := Nat.le_of_ble_eq_true hle
  have hargs : ConcL [] H (pre ++ [.fn (.yield l) [] []] ++ post) (ps ++ [.func (.yield l) #[] #[]] ++ qs) :=
    concL_append (concL_append hps ⟨_, [], rfl, by simp only [Conc]; exact ⟨[], [], rfl, rfl, rfl⟩, rfl⟩) hqs
  have hlen := concL_length hargs
  simp only [List.length_append, List.length_cons, List.length_nil] at hlen
  refine calls_of_runs hf hc (h l I ⟨w, H, [], []⟩ _ hst hy hI rfl rfl hG ?_)
  refine ⟨[], H, ⟨rfl, rfl, Fwd.refl _, Nat.le_refl _, fun b hb _ => rfl, fun b o h => h, fun b o h _ => h, hsub, rfl, fun i e h => by simp at h, fun i e v b h => by simp at h, fun i e v b h => by simp at h, fun i j e e' v v' b _ h => by simp at h⟩, ?_, ?_, rfl⟩
  · exact zipFrom_env hargs _ [] (List.replicate (fn.ntmps - (ps ++ [Value.func (.yield l) #[] #[]] ++ qs).length) undef) (by simp)
  · simp; omega
def readyL (fn : FuncId) (tmps : Array Value) (ps : Array Tmp) (assign body : Code) (D : Nat) : Obj := .loop { state := .ready, pending := none, fn, tmps, params := ps, assign, body, defers := D }
def busyL (fn : FuncId) (tmps : Array Value) (ps : Array Tmp) (assign body : Code) (D : Nat) : Obj := .loop { state := .busy, pending := none, fn, tmps, params := ps, assign, body, defers := D }
abbrev frameR (f : FuncId) (l : Nat) : Frame := { (default : Frame) with fn := f, kind := .normal, roundOf := some l }
def pinned (own : List OE) : List (Nat × AV) → Prop
  | [] => True
  | (_, x) :: env => (x.closed = true ∨ ∃ i off h T cs, x = .box i off ∧ own[i]? = some (.box (some h) T cs)) ∧ pinned own env
def samePins (own own' : List OE) : List (Nat × AV) → Prop
  | [] => True
  | (_, x) :: env => (∀ i off h T cs, x = .box i off → own[i]? = some (.box (some h) T cs) → ∃ T' cs', own'[i]? = some (.box (some h) T' cs')) ∧ samePins own own' env
theorem env_kept {own own' : List OE} {γ' : List Value} {H' : HP} {w' : World} (hO : OwnOK B γ H own w) (hO' : OwnOK B γ' H' own' w') (hH : HLe H H') : ∀ {env : List (Nat × AV)} {tmps : Array Value}, EnvOK γ H env tmps → pinned own env → samePins own own' env → EnvOK γ' H' env tmps
  | [], tmps, _, _, _ => by intro p hp; simp at hp
  | (t, x) :: env, tmps, hE, hp, hs => by
    intro p hpm
    rcases List.mem_cons.1 hpm with rfl | hpm
    · obtain ⟨v, hv, hc⟩ := hE (t, x) (by simp)
      refine ⟨v, hv, ?_⟩
      rcases hp.1 with hcl | ⟨i, off, h, T, cs, hx, hi⟩
      · exact conc_open (conc_closed hH _ _ (conc_close _ _ hcl hc))
      · simp only at hx hc ⊢
        subst hx
        obtain ⟨T', cs', hi'⟩ := hs.1 i off h T cs rfl hi
        obtain ⟨b, vs, hg, _, _, _, hk⟩ := hO.ent i _ hi
        obtain ⟨b', vs', hg', _, _, _, hk'⟩ := hO'.ent i _ hi'
        have e1 := hk h rfl
        have e2 := hk' h rfl
        simp only [Conc] at hc ⊢
        obtain ⟨b0, hg0, rfl⟩ := hc
        rw [hg] at hg0; cases hg0
        exact ⟨b', hg', by rw [← e1, ← e2]⟩
    · exact env_kept hO hO' hH (fun q hq => hE q (by simp [hq])) hp.2 hs.2 p hpm
theorem Sat.pin {S : AS} (hS : Sat B S a w) (i : Nat) {T : TypeId} {cs : List AV} (hi : S.own[i]? = some (.box none T cs)) : ∃ h, Sat B ⟨S.n, S.env, S.own.set i (.box (some h) T cs)⟩ a w := by
  obtain ⟨γ, H, hO, hE, hn, hd⟩ := hS
  obtain ⟨b, vs, hg, hb, hl, ho, _⟩ := hO.ent i _ hi
  exact ⟨b, γ, H, hO.upd (w' := w) hi (by simp) hg rfl (fun _ _ => rfl) rfl rfl rfl rfl ⟨b, vs, hg, hb, hl, ho, by simp⟩, hE, hn, hd⟩
theorem setObj_at {b : Nat} {r : Loop} {o' : Obj} (hb : w.heap[b]? = some (.loop r)) : (setObj b o').run P w = .ok () { w with heap := w.heap.setIfInBounds b o' } := by
  simp [setObj, Sem.run, hb]
def RoundT (P : Program) (B : Base) (own : List OE) (cs : List Frame) (m : Machine) : Prop := match cs with
  | [] => True
  | c :: cs => ∃ w', (∃ γ' H', OwnOK B γ' H' own w') ∧ m = lone (c.finish (.bool true)) cs w'
theorem round_end {l : Nat} {f fn : FuncId} {tmps : Array Value} {ps : Array Tmp} {assign body : Code} {D m : Nat} {S : AS} {own' : List OE} (hS : Sat B S a w) (hm : S.own[m]? = some (.obj (some l) (busyL fn tmps ps assign body D)))
    (ho : own' = S.own.set m (.obj (some l) (readyL fn tmps ps assign body D))) : Runs P (RoundT P B own') (frameR f l) [] a w := fun cs => by
  cases cs with
  | nil => exact ⟨_, trivial, .refl _ _⟩
  | cons c cs =>
    subst ho
    obtain ⟨γ, H, hO, hE, hn, hd⟩ := hS
    obtain ⟨b, hg, hb, hk⟩ := hO.ent m _ hm
    have e := hk l rfl
    subst e
    have hrun : (Instr.endRound l none).run P w = .ok (.bool true) { w with heap := w.heap.setIfInBounds l (readyL fn tmps ps assign body D) } := by
      have h1 : (Instr.getLoop l).run P w = .ok { state := .busy, pending := none, fn, tmps, params := ps, assign, body, defers := D } w := by simp [Instr.getLoop, getObj, Sem.run, hb, busyL]
      simp only [Instr.endRound, Sem.run_bind, h1, Result.andThen_ok]
      rw [setObj_at (r := { state := .busy, pending := none, fn, tmps, params := ps, assign, body, defers := D }) hb]
      rfl
    exact ⟨_, ⟨_, ⟨γ, H, hO.upd (w' := { w with heap := w.heap.setIfInBounds l (readyL fn tmps ps assign body D) }) hm (by simp) hg rfl (fun k hk => heap_set_other hk) (by simp) rfl rfl rfl ⟨l, hg, heap_set_same hb, hk⟩⟩, rfl⟩, .one (stepR_round_end rfl rfl hrun)⟩
theorem round_begin {T : List Frame → Machine → Prop} {k : List Item} {l : Nat} {f fn : FuncId} {tmps : Array Value} {ps : Array Tmp} {assign body : Code} {D m : Nat} {S : AS} (hS : Sat B S a w) (hm : S.own[m]? = some (.obj (some l) (readyL fn tmps ps assign body D)))
    (hk : ∀ w', Sat B ⟨S.n, S.env, S.own.set m (.obj (some l) (busyL fn tmps ps assign body D))⟩ a w' → Runs P T (frameR f l) k a w') : Runs P T (frameR f l) (.beginRound :: k) a w := by
  obtain ⟨γ, H, hO, hE, hn, hd⟩ := hS
  obtain ⟨b, hg, hb, hkk⟩ := hO.ent m _ hm
  have e := hkk l rfl
  subst e
  have hrun : (Instr.beginRound l).run P w = .ok () { w with heap := w.heap.setIfInBounds l (busyL fn tmps ps assign body D) } := by
    have h1 : (Instr.getLoop l).run P w = .ok { state := .ready, pending := none, fn, tmps, params := ps, assign, body, defers := D } w := by simp [Instr.getLoop, getObj, Sem.run, hb, readyL]
    simp only [Instr.beginRound, Sem.run_bind, h1, Result.andThen_ok]
    rw [setObj_at (r := { state := .ready, pending := none, fn, tmps, params := ps, assign, body, defers := D }) hb]
    rfl
  refine Runs.step (fun cs => stepR_beginRound rfl hrun) (hk _ ⟨γ, H, hO.upd (w' := { w with heap := w.heap.setIfInBounds l (busyL fn tmps ps assign body D) }) hm (by simp) hg rfl (fun k hk => heap_set_other hk) (by simp) rfl rfl rfl ⟨l, hg, heap_set_same hb, hkk⟩, hE, hn, hd⟩)
theorem OwnOK.rebase (h : OwnOK B γ H own w) : OwnOK ⟨w, H, γ, []⟩ γ H own w :=
  ⟨rfl, rfl, Fwd.refl _, Nat.le_refl _, fun _ _ _ => rfl, fun _ _ h => h, fun _ _ h _ => h, h.fro, h.len, h.ent, h.free, fun _ _ v _ _ _ hv hb => .inr ⟨v, List.mem_of_getElem? hv, hb⟩, h.apart⟩
theorem OwnOK.trans {γ' : List Value} {H' : HP} {own' : List OE} {w' : World} (h : OwnOK B γ H own w) (hng : ∀ e ∈ own, e ≠ .gone) (h' : OwnOK ⟨w, H, γ, []⟩ γ' H' own' w') : OwnOK B γ' H' own' w' := by
  have live : ∀ (v : Value) (b : Nat), v ∈ γ → hblk v = some b → B.w.heap.size ≤ b ∨ ∃ u ∈ B.γ, hblk u = some b := by
    intro v b hv hb
    obtain ⟨i, hi⟩ := List.mem_iff_getElem?.1 hv
    have hlt : i < own.length := by rw [← h.len]; exact (List.getElem?_eq_some_iff.1 hi).1
    exact h.newb i own[i] v b (by simp) (hng _ (by simp)) hi hb
  refine ⟨h'.os.trans h.os, h'.tape.trans h.tape, h'.output.trans h.output, Nat.le_trans h.size h'.size, fun b hb hv => ?_, fun b o hb => h'.hle b o (h.hle b o hb), fun b o hb hlt => h.hdom b o (h'.hdom b o hb (Nat.lt_of_lt_of_le hlt h.size)) hlt, h'.fro, h'.len, h'.ent, h'.free, fun i e v b hi hne hv hb => ?_, h'.apart⟩
  · rw [← h.keep b hb hv]
    refine h'.keep b (Nat.lt_of_lt_of_le hb h.size) (fun v hvm hvb => ?_)
    rcases live v b hvm hvb with h1 | ⟨u, hu, hub⟩
    · omega
    · exact hv u hu hub
  · rcases h'.newb i e v b hi hne hv hb with h1 | ⟨u, hu, hub⟩
    · exact .inl (Nat.le_trans h.size h1)
    · exact live u b hu hub
theorem params_env : ∀ {ts : List Nat} {es : List AV} {us : List Value} {tmps : Array Value}, ConcL γ H es us → ts.Nodup → (∀ t ∈ ts, t < tmps.size) → ts.length = es.length →
    EnvOK γ H (ts.zip es) ((ts.zip us).foldl (fun tmps p => tmps.setIfInBounds p.1 p.2) tmps) ∧ (∀ t, t ∉ ts → ((ts.zip us).foldl (fun tmps p => tmps.setIfInBounds p.1 p.2) tmps)[t]? = tmps[t]?) ∧
      ((ts.zip us).foldl (fun tmps p => tmps.setIfInBounds p.1 p.2) tmps).size = tmps.size
  | [], es, us, tmps, _, _, _, _ => ⟨by intro p hp; simp at hp, fun _ _ => by simp, by simp⟩
  | t :: ts, [], us, tmps, _, _, _, h => by simp at h
  | t :: ts, e :: es, us, tmps, hc, hn, hl, h => by
    obtain ⟨u, us', rfl, hu, hc'⟩ := hc
    have hn' := List.nodup_cons.1 hn
    obtain ⟨h1, h2, h3⟩ := params_env (ts := ts) (es := es) (us := us') (tmps := tmps.setIfInBounds t u) hc' hn'.2 (fun t' ht' => by simpa using hl t' (by simp [ht'])) (by simpa using h)
    have hlt := hl t (by simp)
    simp only [List.zip_cons_cons, List.foldl_cons]
    refine ⟨fun p hp => ?_, fun t' ht' => ?_, by rw [h3]; simp⟩
    · rcases List.mem_cons.1 hp with rfl | hp
      · exact ⟨u, by rw [h2 t hn'.1]; simp [hlt], hu⟩
      · exact h1 p hp
    · simp only [List.mem_cons, not_or] at ht'
      rw [h2 t' ht'.2, Array.getElem?_setIfInBounds, if_neg (Ne.symm ht'.1)]
def markOf (D : Nat) : Deferred := { target := .collected D, args := #[] }
theorem rangeFunc {T : List Frame → Machine → Prop} {b : Frame} {k : List Item} {g : Operand} {ps : Array Tmp} {assign body : Code} {S : AS} {f : FuncId} {fs cs : List AV} {elems : List (List AV)} (Own : Nat → List OE) (env : List (Nat × AV))
    (hS : Sat B S a w) (hBd : B.df = []) (hG : GOK G B.H) (hro : b.roundOf = none) (hg : opnd G (rsOf S).ρ none g = some (.fn (.func f) fs cs)) (hcl : (AV.closedL fs && AV.closedL cs) = true) (hIt : IterA P G f fs cs elems)
    (hOwn : S.own = Own 0) (hng : ∀ j, ∀ e ∈ Own j, e ≠ .gone) (hpin : ∀ j, pinned (Own j) env) (hsame : ∀ j, samePins (Own j) (Own (j + 1)) env) (henv : ∀ p ∈ env, p ∈ S.env)
    (hps : nodupB ps.toList = true) (hpl : (ps.toList.all fun t => Nat.blt t S.n) = true) (hpe : (env.all fun p => !(ps.toList.any fun t => t == p.1)) = true) (hlen : ∀ e ∈ elems, ps.toList.length = e.length)
    (hround : ∀ (j : Nat) (e : List AV) (L D : Nat) (B' : Base) (a' : Act), elems[j]? = some e → B'.df = [] → GOK G B'.H → Sat B' ⟨S.n, ps.toList.zip e ++ env, Own j ++ [.obj (some D) (.deferred (some [])), .obj (some L) (readyL b.fn a.tmps ps assign body D)]⟩ a' B'.w →
      Runs P (RoundT P B' (Own (j + 1) ++ [.obj (some D) (.deferred (some [])), .obj (some L) (readyL b.fn a.tmps ps assign body D)])) (frameR b.fn L) [.code assign, .beginRound, .code body] a' B'.w)
    (hk : ∀ (D : Nat) (a' : Act) (w' : World), Sat { B with df := [markOf D] } ⟨S.n, env, Own elems.length ++ [.obj (some D) (.deferred (some [])), .gone]⟩ a' w' → Runs P T b k a' w') :
    Runs P T b (.code (.rangeFunc g ps assign body) :: k) a w := fun cs0 => by
  obtain ⟨γ, H, hO, hE, hn, hdf⟩ := hS
  have hgc := opnd_sound (γ := γ) (H := H) (a := a) (g := none) (envR_of hE) (fun _ _ h => by cases h) (hG.here hO) hg
  simp only [Conc] at hgc
  obtain ⟨ws, us, hgv, hws, hus⟩ := hgc
  simp only [Bool.and_eq_true] at hcl
  -- the record and the block for deferred calls
  let D := w.heap.size
  let L := w.heap.size + 1
  let w1 : World := (w.alloc (.deferred (some []))).alloc (readyL b.fn a.tmps ps assign body D)
  have he : (Instr.enterLoop b.fn a.tmps ps assign body b.roundOf).run P w = .ok (L, [markOf D]) w1 := by
    rw [hro]
    simp [Instr.enterLoop, w1, L, D, readyL, markOf]
  have hres : (resolve a.eval (rangeCall g L) 0).run P w1 = .ok { target := .fn (.func f) ⟨us⟩, args := ⟨ws⟩ ++ #[.func (.yield L) #[] #[]] } w1 := by
    show (Deferred.ofValue (a.eval g) _).run P w1 = _
    rw [hgv]; simp [Deferred.ofValue, Act.eval]
  have hinv : (invoke (.fn (.func f) ⟨us⟩) (⟨ws⟩ ++ #[.func (.yield L) #[] #[]])).run P w1 = .ok (.enter f ⟨ws ++ [.func (.yield L) #[] #[]] ++ us⟩) w1 := by
    simp only [invoke]
    have e : (⟨ws⟩ ++ #[.func (.yield L) #[] #[]] ++ ⟨us⟩ : Array Value) = ⟨ws ++ [.func (.yield L) #[] #[]] ++ us⟩ := by apply Array.ext'; simp
    rw [e]; exact callFunc_run hIt.1 _
  have hstep := stepR_rangeFunc (P := P) (b := b) (a := a) (k := k) (cs := cs0) (w := w) he hres hinv
  -- what is owned then
  have hO1 : OwnOK B (γ ++ [.pointer (some ⟨D, 0, none⟩)]) H (S.own ++ [.obj (some D) (.deferred (some []))]) (w.alloc (.deferred (some []))) :=
    hO.alloc rfl ⟨D, by rw [← hO.len]; simp, by show (w.heap.push _)[w.heap.size]? = _; simp, fun k hk => by simpa using hk.symm⟩
  have hO2 : OwnOK B (γ ++ [.pointer (some ⟨D, 0, none⟩)] ++ [.pointer (some ⟨L, 0, none⟩)]) H (S.own ++ [.obj (some D) (.deferred (some []))] ++ [.obj (some L) (readyL b.fn a.tmps ps assign body D)]) w1 := by
    have hsz : (w.alloc (.deferred (some []))).heap.size = L := by simp [L]
    refine hO1.alloc (by rw [hsz]; rfl) ⟨L, by rw [← hO1.len]; simp, ?_, fun k hk => by simpa using hk.symm⟩
    show ((w.alloc (.deferred (some []))).heap.push _)[L]? = _
    rw [show L = (w.alloc (.deferred (some []))).heap.size from hsz.symm]
    exact Array.getElem?_push_size
  let Own' : Nat → List OE := fun j => Own j ++ [.obj (some D) (.deferred (some [])), .obj (some L) (readyL b.fn a.tmps ps assign body D)]
  have hObjNG : ∀ j, ∀ e ∈ Own' j, e ≠ .gone := by
    intro j e he'
    simp only [Own', List.mem_append, List.mem_cons, List.mem_nil_iff, or_false] at he'
    rcases he' with h | rfl | rfl
    · exact hng j e h
    · simp
    · simp
  let I : Nat → World → HP → Prop := fun j W H' => ∃ γ', OwnOK B γ' H' (Own' j) W ∧ EnvOK γ' H' env a.tmps
  have hst : Stable I := by
    rintro j W H1 W' H2 ⟨γ', h1, h2⟩ hgr
    exact ⟨γ', h1.called hgr, fun p hp => by
      obtain ⟨v, hv, hc⟩ := h2 p hp
      exact ⟨v, hv, conc_mono (fun b o h => hgr.hle b o h) (Ext.refl _) hc⟩⟩
  have pin' : ∀ j, pinned (Own' j) env := by
    intro j
    have gen : ∀ {env : List (Nat × AV)}, pinned (Own j) env → pinned (Own' j) env := by
      intro env
      induction env with
      | nil => intro _; trivial
      | cons p env ih =>
        obtain ⟨t, x⟩ := p
        rintro ⟨h1, h2⟩
        refine ⟨?_, ih h2⟩
        rcases h1 with h | ⟨i, off, h, T, cs, hx, hi⟩
        · exact .inl h
        · exact .inr ⟨i, off, h, T, cs, hx, by simp only [Own']; rw [List.getElem?_append_left (List.getElem?_eq_some_iff.1 hi).1]; exact hi⟩
    exact gen (hpin j)
  have same' : ∀ j, samePins (Own' j) (Own' (j + 1)) env := by
    intro j
    have gen : ∀ {env : List (Nat × AV)}, pinned (Own j) env → samePins (Own j) (Own (j + 1)) env → samePins (Own' j) (Own' (j + 1)) env := by
      intro env
      induction env with
      | nil => intro _ _; trivial
      | cons p env ih =>
        obtain ⟨t, x⟩ := p
        rintro ⟨h1, h2⟩ ⟨h3, h4⟩
        refine ⟨fun i off h T cs hx hi => ?_, ih h2 h4⟩
        rcases h1 with hc | ⟨i', off', h', T', cs', hx', hi'⟩
        · rw [hx] at hc; simp [AV.closed] at hc
        · rw [hx] at hx'; cases hx'
          have hlt := (List.getElem?_eq_some_iff.1 hi').1
          simp only [Own'] at hi
          rw [List.getElem?_append_left hlt, hi'] at hi
          cases hi
          obtain ⟨T2, cs2, h5⟩ := h3 i off _ _ _ hx hi'
          exact ⟨T2, cs2, by simp only [Own']; rw [List.getElem?_append_left (List.getElem?_eq_some_iff.1 h5).1]; exact h5⟩
    exact gen (hpin j) (hsame j)
  have hyield : YieldRule P G L elems I := by
    rintro j e W H1 vs hej ⟨γ', h1, h2⟩ hsub hGH hce
    obtain ⟨bL, hgL, hbL, hkL⟩ := h1.ent ((Own j).length + 1) (.obj (some L) (readyL b.fn a.tmps ps assign body D)) (by simp [Own'])
    have := hkL L rfl
    subst this
    have hgl : (Instr.getLoop L).run P W = .ok { state := .ready, pending := none, fn := b.fn, tmps := a.tmps, params := ps, assign, body, defers := D } W := by simp [Instr.getLoop, getObj, Sem.run, hbL, readyL]
    have hvl := concL_length hce
    have hel := hlen e (List.mem_of_getElem? hej)
    have hpn := nodupB_spec hps
    have hpl' : ∀ t ∈ ps.toList, t < a.tmps.size := fun t ht => by
      have := List.all_eq_true.1 hpl t ht
      rw [hn]; simpa [Nat.blt_eq] using this
    obtain ⟨q1, q2, q3⟩ := params_env (γ := γ') (H := H1) (tmps := a.tmps) (concL_open (γ := γ') hce) hpn hpl' hel
    refine ⟨b.fn, (ps.zip ⟨vs⟩).foldl (fun tmps (x : Tmp × Value) => tmps.setIfInBounds x.1 x.2) a.tmps, assign, body, ?_, fun c cs => ?_⟩
    · simp only [Instr.yield, Sem.run_bind, hgl, Result.andThen_ok]
      rw [if_neg (by simp only [ne_eq, List.size_toArray, Decidable.not_not]; rw [hvl, ← hel]; simp)]
      rfl
    · have hfold : (ps.zip ⟨vs⟩).foldl (fun tmps (x : Tmp × Value) => tmps.setIfInBounds x.1 x.2) a.tmps = (ps.toList.zip vs).foldl (fun tmps p => tmps.setIfInBounds p.1 p.2) a.tmps := by
        rw [← Array.foldl_toList]; simp
      have hsat : Sat ⟨W, H1, γ', []⟩ ⟨S.n, ps.toList.zip e ++ env, Own' j⟩ { tmps := (ps.toList.zip vs).foldl (fun tmps p => tmps.setIfInBounds p.1 p.2) a.tmps, defers := [] } W := by
        refine ⟨γ', H1, h1.rebase, fun p hp => ?_, by rw [q3]; exact hn, rfl⟩
        rcases List.mem_append.1 hp with hp | hp
        · exact q1 p hp
        · obtain ⟨v, hv, hc⟩ := h2 p hp
          refine ⟨v, ?_, hc⟩
          rw [q2 p.1 (fun hm => by
            have := not_any (List.all_eq_true.1 hpe p hp) p.1 hm
            simp at this)]
          exact hv
      obtain ⟨m, hT, hs⟩ := hround j e L D ⟨W, H1, γ', []⟩ { tmps := (ps.toList.zip vs).foldl (fun tmps p => tmps.setIfInBounds p.1 p.2) a.tmps, defers := [] } hej rfl hGH hsat (c :: cs)
      obtain ⟨w', ⟨γ2, H2, hO'⟩, rfl⟩ := hT
      have hB2 : OwnOK B γ2 H2 (Own' (j + 1)) w' := h1.trans (hObjNG j) hO'
      refine ⟨w', ⟨H2, fun b o h => hO'.hle b o h, hB2.hsub, γ2, hB2, env_kept h1 hB2 (fun b o h => hO'.hle b o h) h2 (pin' j) (same' j)⟩, ?_⟩
      have hfr : Frame.round L b.fn ((ps.zip ⟨vs⟩).foldl (fun tmps (x : Tmp × Value) => tmps.setIfInBounds x.1 x.2) a.tmps) assign body .normal =
          (frameR b.fn L).atR { tmps := (ps.toList.zip vs).foldl (fun tmps p => tmps.setIfInBounds p.1 p.2) a.tmps, defers := [] } [.code assign, .beginRound, .code body] := by
        rw [hfold]; simp [Frame.round, Frame.atR, frameR]
      exact (show Steps P (lone (Frame.round L b.fn ((ps.zip ⟨vs⟩).foldl (fun tmps (x : Tmp × Value) => tmps.setIfInBounds x.1 x.2) a.tmps) assign body .normal) (c :: cs) W) _ by rw [hfr]; exact hs)
  have hI0 : I 0 w1 H := by
    refine ⟨γ ++ [.pointer (some ⟨D, 0, none⟩)] ++ [.pointer (some ⟨L, 0, none⟩)], ?_, fun p hp => ?_⟩
    · rw [hOwn] at hO2
      have e : Own' 0 = Own 0 ++ [.obj (some D) (.deferred (some []))] ++ [.obj (some L) (readyL b.fn a.tmps ps assign body D)] := by simp [Own']
      rw [e]; exact hO2
    · obtain ⟨v, hv, hc⟩ := hE p (henv p hp)
      exact ⟨v, hv, conc_mono (HLe.refl H) ((Ext.snoc γ _).trans (Ext.snoc _ _)) hc⟩
  obtain ⟨e, w3, fr, ⟨v, rfl, H3, hsub3, γ3, hO3, hE3⟩, hsteps, hfn, hleave⟩ := hIt.2 L I w1 H ws us hst hyield hI0 hO2.hsub (hG.here hO2) (concL_close _ _ hcl.1 hws) (concL_close _ _ hcl.2 hus) (b.atR { a with defers := [markOf D] ++ a.defers } (.inRangeFunc L :: k) :: cs0)
  have hback := step_leave_returned (P := P) (c := b.atR { a with defers := [markOf D] ++ a.defers } (.inRangeFunc L :: k)) (cs := cs0) hleave
  rw [finish_atR_inRangeFunc] at hback
  -- the loop's end
  obtain ⟨bL, hgL, hbL, hkL⟩ := hO3.ent ((Own elems.length).length + 1) (.obj (some L) (readyL b.fn a.tmps ps assign body D)) (by simp [Own'])
  have := hkL L rfl
  subst this
  let w4 : World := { w3 with heap := w3.heap.setIfInBounds L (.loop { state := .exhausted, pending := none, fn := b.fn, tmps := a.tmps, params := ps, assign, body, defers := D }) }
  have hend : (Instr.endLoop L).run P w3 = .ok none w4 := by
    have h1 : (Instr.getLoop L).run P w3 = .ok { state := .ready, pending := none, fn := b.fn, tmps := a.tmps, params := ps, assign, body, defers := D } w3 := by simp [Instr.getLoop, getObj, Sem.run, hbL, readyL]
    simp only [Instr.endLoop, Sem.run_bind, h1, Result.andThen_ok, show (LoopState.ready == LoopState.busy) = false from rfl, Bool.false_eq_true, if_false]
    rw [setObj_at (r := { state := .ready, pending := none, fn := b.fn, tmps := a.tmps, params := ps, assign, body, defers := D }) hbL]
    rfl
  have hstep2 := stepR_endRangeFunc (P := P) (b := b) (a := { a with defers := [markOf D] ++ a.defers }) (k := k) (cs := cs0) hend
  have hO4 := hO3.upd (w' := w4) (i := (Own elems.length).length + 1) (e := .obj (some L) (readyL b.fn a.tmps ps assign body D)) (e' := .gone) (b := L) (by simp [Own']) (by simp) hgL rfl (fun k hk => heap_set_other hk) (by simp [w4]) rfl rfl rfl trivial
  have hset : (Own' elems.length).set ((Own elems.length).length + 1) .gone = Own elems.length ++ [.obj (some D) (.deferred (some [])), .gone] := by simp [Own', List.set_append]
  rw [hset] at hO4
  have hsat : Sat { B with df := [markOf D] } ⟨S.n, env, Own elems.length ++ [.obj (some D) (.deferred (some [])), .gone]⟩ { a with defers := [markOf D] ++ a.defers } w4 :=
    ⟨γ3, H3, ⟨hO4.os, hO4.tape, hO4.output, hO4.size, hO4.keep, hO4.hle, hO4.hdom, hO4.fro, hO4.len, hO4.ent, hO4.free, hO4.newb, hO4.apart⟩, hE3, hn, by rw [hdf, hBd]; rfl⟩
  obtain ⟨m, hT, hs2⟩ := hk D _ _ hsat cs0
  exact ⟨m, hT, .head hstep (Steps.trans hsteps (.head hback (.head hstep2 hs2)))⟩
theorem runs_ret_mark {b : Frame} {k : List Item} {f : FuncId} {R : Ending → World → Prop} {fn : Func} {v : Value} {D : Nat} (hb : b.roundOf = none) (hkd : b.kind = .normal) (hbf : b.fn = f) (hf : P.funcs[f]? = some fn)
    (hd : a.defers = [markOf D]) (hD : w.heap[D]? = some (.deferred (some []))) (hr : (results fn a.tmps).run P { w with heap := w.heap.setIfInBounds D (.deferred none) } = .ok v { w with heap := w.heap.setIfInBounds D (.deferred none) })
    (hR : R (.returned v) { w with heap := w.heap.setIfInBounds D (.deferred none) }) : Runs P (Leaves P f R) b (.code .ret :: k) a w := fun cs => by
  have h1 : (Instr.takeDeferred D).run P w = .ok [] { w with heap := w.heap.setIfInBounds D (.deferred none) } := by
    simp [Instr.takeDeferred, getObj, setObj, Sem.run, hD]
  have hstep : Go.step P (lone { b.atR a (.code .ret :: k) with mode := .returning } cs w) = .next (lone { b.atR a (.code .ret :: k) with mode := .returning, defers := [] } cs { w with heap := w.heap.setIfInBounds D (.deferred none) }) :=
    step_lone_go (by simp [stepG, unwind, Frame.atR, hd, markOf, Sem.runT_eq, h1, GStep.bare_after])
  exact ⟨_, ⟨.returned v, _, { b.atR a (.code .ret :: k) with mode := .returning, defers := [] }, hR, by simp, rfl, hbf, rfl, rfl, hkd, fn, by rw [← hbf] at hf; exact hf, hr⟩, .head (stepR_ret hb) (.one hstep)⟩
theorem retm {b : Frame} {k : List Item} {f : FuncId} {fn : Func} {S : AS} {r : AV} {D : Nat} (m : Nat) (hf : P.funcs[f]? = some fn) (hb : b = { (default : Frame) with fn := f, kind := .normal, roundOf := none }) (hB : B.γ = [])
    (hS : Sat { B with df := [markOf D] } S a w) (hm : S.own[m]? = some (.obj (some D) (.deferred (some [])))) (h : retFz P { S with own := S.own.set m .gone } fn.results.toList = some r) (hr : r.closed = true) : Runs P (RetT P f B r) b (.code .ret :: k) a w := by
  obtain ⟨γ, H, hO, hE, hn, hd⟩ := hS
  obtain ⟨b0, hg, hb0, hk⟩ := hO.ent m _ hm
  have e := hk D rfl
  subst e
  have hO' := hO.upd (w' := { w with heap := w.heap.setIfInBounds D (.deferred none) }) (e' := .gone) hm (by simp) hg rfl (fun k hk => heap_set_other hk) (by simp) rfl rfl rfl trivial
  unfold retFz at h
  cases hx : retAV P { S with own := S.own.set m .gone } fn.results.toList with
  | none => rw [hx] at h; cases h
  | some x =>
    rw [hx] at h; simp only [Option.map_some, Option.some.injEq] at h; subst h
    obtain ⟨v, hv, hc⟩ := results_run (S := { S with own := S.own.set m .gone }) hO' hE hx
    subst hb
    exact runs_ret_mark rfl rfl rfl hf hd hb0 hv ⟨v, rfl, hold γ H (S.own.set m .gone) _, hO'.leaveF (B := { B with df := [markOf D] }) hB, conc_close (γ := γ) _ _ hr (conc_wkn (γ := γ) _ _ (conc_sub (hold_le hO') (conc_frz1 hO') _ _ hc))⟩
end Go.Fw

namespace Go.Fw
variable {P : Program} {B : Base} {γ : List Value} {H : HP} {own : List OE} {w : World} {a : Act} {ro : Option Nat} {o : Oper} {G : GTab}

def RowIn (w : World) (H : HP) (g : Value) (T k : Nat) (xs : List AV) : Prop := OwnOK ⟨w, H, [g], []⟩ [g] H [.row T k xs] w
def CallRow (P : Program) (G : GTab) (f : FuncId) (T k : Nat) (xs : List AV) (post : List AV) (ys : List AV) : Prop := BodyOK P f ∧
  ∀ (w : World) (H : HP) (g : Value) (vs : List Value), RowIn w H g T k xs → (∃ A n c, g = .slice A n c) → GOK G H → ConcL [] H post vs →
    Calls P f ⟨g :: vs⟩ w fun e w' => ∃ v H', e = .returned v ∧ (∃ A n c, v = .slice A n c) ∧ OwnOK ⟨w, H, [g], []⟩ [v] H' [.row T k ys] w'
theorem rowIn_of (h : OwnOK B γ H own w) {i T k : Nat} {xs : List AV} {g : Value} (hi : own[i]? = some (.row T k xs)) (hg : γ[i]? = some g) : RowIn w H g T k xs := by
  refine ⟨rfl, rfl, Fwd.refl _, Nat.le_refl _, fun _ _ _ => rfl, fun _ _ h => h, fun _ _ h _ => h, h.fro, rfl, fun j e hj => ?_, fun j e v b hj hne hv hb => ?_, fun j e v b hj hne hv hb => ?_, fun j1 j2 e1 e2 v1 v2 b hne h1 h2 _ _ _ _ _ => ?_⟩
  · cases j with
    | zero =>
      simp at hj; subst hj
      rcases h.ent i _ hi with ⟨hx, hg'⟩ | ⟨b, cap, cs, vs, hg', r⟩
      · rw [hg] at hg'; cases hg'; exact .inl ⟨hx, rfl⟩
      · rw [hg] at hg'; cases hg'; exact .inr ⟨b, cap, cs, vs, rfl, r⟩
    | succ j => simp at hj
  · cases j with
    | zero => simp at hv; subst hv; exact h.free i _ _ b hi (by simp) hg hb
    | succ j => simp at hv
  · cases j with
    | zero => simp at hv; subst hv; exact .inr ⟨_, by simp, hb⟩
    | succ j => simp at hv
  · cases j1 with
    | zero => cases j2 with
      | zero => exact absurd rfl hne
      | succ j2 => simp at h2
    | succ j1 => simp at h1
theorem OwnOK.rowBack (h : OwnOK B γ H own w) {i T k : Nat} {xs ys : List AV} {g v : Value} {H' : HP} {w' : World} (hi : own[i]? = some (.row T k xs)) (hg : γ[i]? = some g) (hc : OwnOK ⟨w, H, [g], []⟩ [v] H' [.row T k ys] w') :
    OwnOK B (γ ++ [v]) H' (own.set i .gone ++ [.row T k ys]) w' := by
  have hlt : i < own.length := (List.getElem?_eq_some_iff.1 hi).1
  have kp : ∀ b, b < w.heap.size → hblk g ≠ some b → w'.heap[b]? = w.heap[b]? := fun b hb hne => hc.keep b hb (fun v' hv' => by simp at hv'; subst hv'; exact hne)
  have sp : ∀ (j : Nat) (ej : OE), (own.set i OE.gone ++ [OE.row T k ys])[j]? = some ej → ej ≠ OE.gone → (j < own.length ∧ j ≠ i ∧ own[j]? = some ej) ∨ (j = own.length ∧ ej = .row T k ys) := by
    intro j ej hj hnj
    by_cases hl : j < own.length
    · rw [List.getElem?_append_left (by simpa using hl)] at hj
      obtain ⟨h1, h2⟩ := getElem?_set_gone hj hnj
      exact .inl ⟨hl, h1, h2⟩
    · have hj' := (List.getElem?_eq_some_iff.1 hj).1
      simp at hj'
      have : j = own.length := by omega
      subst this
      rw [List.getElem?_append_right (by simp)] at hj
      simp at hj; exact .inr ⟨rfl, hj.symm⟩
  have gold : ∀ (j : Nat) (u : Value), j < own.length → (γ ++ [v])[j]? = some u → γ[j]? = some u := by
    intro j u hl hu
    rwa [List.getElem?_append_left (by rw [h.len]; exact hl)] at hu
  have gnew : ∀ (u : Value), (γ ++ [v])[own.length]? = some u → u = v := by
    intro u hu
    rw [List.getElem?_append_right (by rw [h.len]; exact Nat.le_refl _)] at hu
    simp [h.len] at hu; exact hu.symm
  have hnew : ∀ b, hblk v = some b → w.heap.size ≤ b ∨ hblk g = some b := fun b hb => by
    rcases hc.newb 0 _ v b rfl (by simp) rfl hb with h1 | ⟨u, hu, hub⟩
    · exact .inl h1
    · simp at hu; subst hu; exact .inr hub
  refine ⟨hc.os.trans h.os, hc.tape.trans h.tape, hc.output.trans h.output, Nat.le_trans h.size hc.size, fun b hb hbv => ?_, fun b o hb => hc.hle b o (h.hle b o hb), fun b o hb hl => h.hdom b o (hc.hdom b o hb (Nat.lt_of_lt_of_le hl h.size)) hl, hc.fro, by simp [h.len], fun j ej hj => ?_, fun j ej u b hj hnj hu hb => ?_, fun j ej u b hj hnj hu hb => ?_, fun j1 j2 e1 e2 u1 u2 b hj12 h1 h2 n1 n2 g1 g2 b1 b2 => ?_⟩
  · rw [kp b (Nat.lt_of_lt_of_le hb h.size) (fun hgb => ?_)]
    · exact h.keep b hb hbv
    · rcases h.newb i _ g b hi (by simp) hg hgb with h1 | ⟨u, hu, hub⟩
      · omega
      · exact hbv u hu hub
  · by_cases hgn : ej = .gone
    · subst hgn; trivial
    rcases sp j ej hj hgn with ⟨hl, hji, hj'⟩ | ⟨rfl, rfl⟩
    · have hold := h.ent j ej hj'
      have hH : HLe H H' := fun b o hb => hc.hle b o hb
      cases hgb : hblk g with
      | none =>
        exact entryOK_map (w := w) (b := w'.heap.size) (Ext.snoc γ v) hH (fun k o' _ hk => by rw [kp k (Array.getElem?_eq_some_iff.1 hk).1 (by rw [hgb]; simp)]; exact hk)
          (fun hnej u hu hb => by have := entryOK_blk hold hnej hu hb; have := hc.size; simp at this; omega) hold
      | some bv =>
        exact entryOK_map (w := w) (b := bv) (Ext.snoc γ v) hH (fun k o' hk hk' => by rw [kp k (Array.getElem?_eq_some_iff.1 hk').1 (by rw [hgb]; simpa using Ne.symm hk)]; exact hk')
          (fun hnej u hu hb => h.apart i j _ ej g u bv (Ne.symm hji) hi hj' (by simp) hnej hg hu hgb hb) hold
    · have := hc.ent 0 _ rfl
      rcases this with ⟨hx, hg'⟩ | ⟨b, cap, cs, vs, hg', r⟩
      · simp at hg'; subst hg'; exact .inl ⟨hx, by rw [← h.len]; simp⟩
      · simp at hg'; subst hg'; exact .inr ⟨b, cap, cs, vs, by rw [← h.len]; simp, r⟩
  · rcases sp j ej hj hnj with ⟨hl, hji, hj'⟩ | ⟨rfl, rfl⟩
    · have hb1 := entryOK_blk (h.ent j ej hj') hnj (gold j u hl hu) hb
      cases hh : H' b with
      | none => rfl
      | some o' => have := hc.hdom b o' hh hb1; have h2 := h.free j ej u b hj' hnj (gold j u hl hu) hb; simp only at this; rw [h2] at this; cases this
    · have := gnew u hu; subst this; exact hc.free 0 _ _ b rfl (by simp) rfl hb
  · rcases sp j ej hj hnj with ⟨hl, hji, hj'⟩ | ⟨rfl, rfl⟩
    · exact h.newb j ej u b hj' hnj (gold j u hl hu) hb
    · have := gnew u hu; subst this
      rcases hnew b hb with h1 | h1
      · exact .inl (Nat.le_trans h.size h1)
      · exact h.newb i _ g b hi (by simp) hg h1
  · rcases sp j1 e1 h1 n1 with ⟨l1, i1, o1⟩ | ⟨rfl, rfl⟩ <;> rcases sp j2 e2 h2 n2 with ⟨l2, i2, o2⟩ | ⟨rfl, rfl⟩
    · exact h.apart j1 j2 e1 e2 u1 u2 b hj12 o1 o2 n1 n2 (gold _ _ l1 g1) (gold _ _ l2 g2) b1 b2
    · have := gnew u2 g2; subst this
      have a1 := entryOK_blk (h.ent j1 e1 o1) n1 (gold _ _ l1 g1) b1
      rcases hnew b b2 with h3 | h3
      · omega
      · exact h.apart i j1 _ e1 g u1 b (Ne.symm i1) hi o1 (by simp) n1 hg (gold _ _ l1 g1) h3 b1
    · have := gnew u1 g1; subst this
      have a1 := entryOK_blk (h.ent j2 e2 o2) n2 (gold _ _ l2 g2) b2
      rcases hnew b b1 with h3 | h3
      · omega
      · exact h.apart i j2 _ e2 g u2 b (Ne.symm i2) hi o2 (by simp) n2 hg (gold _ _ l2 g2) h3 b2
    · exact hj12 rfl
theorem callO_row {f : FuncId} {T k i : Nat} {xs ys post : List AV} (hc : CallRow P G f T k xs post ys) (hi : own[i]? = some (.row T k xs)) (hp : AV.closedL post = true) :
    CallO P G f (.osl i :: post) own (.osl own.length) (own.set i .gone ++ [.row T k ys]) := by
  refine ⟨hc.1, fun B γ H w vs hG hO hargs => ?_⟩
  obtain ⟨g, us, rfl, hg, hus⟩ := hargs
  simp only [Conc] at hg
  refine (hc.2 w H g us (rowIn_of hO hi hg.1) hg.2 (hG.here hO) (concL_close _ _ hp hus)).mono ?_
  rintro e w' ⟨v, H', rfl, hv, hO'⟩
  refine ⟨v, rfl, γ ++ [v], H', Ext.snoc γ v, fun b o hb => hO'.hle b o hb, hO.rowBack hi hg.1 hO', ?_⟩
  simp only [Conc]
  exact ⟨by rw [← hO.len]; simp, hv⟩
abbrev RowT (P : Program) (f : FuncId) (B : Base) (T k : Nat) (ys : List AV) : List Frame → Machine → Prop :=
  Leaves P f fun e w' => ∃ v H', e = .returned v ∧ (∃ A n c, v = .slice A n c) ∧ OwnOK B [v] H' [.row T k ys] w'
theorem callRow_of {f : FuncId} {fn : Func} {c : Code} {T k : Nat} {xs post ys : List AV} (hf : P.funcs[f]? = some fn) (hc : fn.body = some c) (hn : fn.name ≠ "runtime.NumGoroutine") (hle : Nat.ble (post.length + 1) fn.ntmps = true)
    (h : ∀ (B : Base) (a : Act), B.df = [] → GOK G B.H → Sat B ⟨fn.ntmps, zipFrom 0 (.osl 0 :: post), [.row T k xs]⟩ a B.w → Runs P (RowT P f B T k ys) (frameOf f) [.code c] a B.w) : CallRow P G f T k xs post ys := by
  refine ⟨⟨fn, hf, by rw [hc]; rfl, hn⟩, fun w H g vs hR hg hG hpost => ?_⟩
  have hargs : ConcL [g] H (.osl 0 :: post) (g :: vs) := ⟨g, vs, rfl, by simp only [Conc]; exact ⟨rfl, hg⟩, concL_open hpost⟩
  have hlen := concL_length hargs
  have hle' := Nat.le_of_ble_eq_true hle
  simp only [List.length_cons] at hlen
  refine calls_of_runs hf hc (h ⟨w, H, [g], []⟩ _ rfl hG ⟨[g], H, hR, ?_, ?_, rfl⟩)
  · have gen : ∀ {args : List AV} {us : List Value} (pre : List Value) (tmps : Array Value) (q : List Value), ConcL [g] H args us → tmps.toList = pre ++ us ++ q → EnvOK [g] H (zipFrom pre.length args) tmps := by
      intro args
      induction args with
      | nil => intro us pre tmps q _ _ p hp; simp [zipFrom] at hp
      | cons x xs ih =>
        intro us pre tmps q hcc ht
        obtain ⟨v, vs', rfl, hv, h'⟩ := hcc
        intro p hp
        simp only [zipFrom] at hp
        rcases List.mem_cons.1 hp with rfl | hp
        · refine ⟨v, ?_, hv⟩
          rw [← Array.getElem?_toList, ht]; simp
        · exact ih (pre ++ [v]) tmps q h' (by rw [ht]; simp) p (by simpa using hp)
    exact gen [] _ (List.replicate (fn.ntmps - (g :: vs).length) undef) hargs (by simp)
  · simp; omega
theorem ret_row {b : Frame} {k : List Item} {f : FuncId} {fn : Func} {S : AS} {T kk j : Nat} {ys : List AV} (hf : P.funcs[f]? = some fn) (hb : b = { (default : Frame) with fn := f, kind := .normal, roundOf := none }) (hBd : B.df = [])
    (hS : Sat B S a w) (h : retAV P S fn.results.toList = some (.osl j)) (hj : S.own[j]? = some (.row T kk ys)) : Runs P (RowT P f B T kk ys) b (.code .ret :: k) a w := by
  obtain ⟨γ, H, hO, hE, hn, hd⟩ := hS
  obtain ⟨v, hv, hc⟩ := results_run hO hE h
  simp only [Conc] at hc
  subst hb
  refine runs_ret rfl rfl rfl hf (hd.trans hBd) hv ⟨v, H, rfl, hc.2, ?_⟩
  have := hO.sel (σ := [j]) (own' := [.row T kk ys]) (by simp [selO, hj, rnO]) (by simp)
  have e : selγ γ [j] = [v] := by simp [selγ, List.getD, hc.1]
  rwa [e] at this
end Go.Fw

namespace Go.Fw
open Go.Proofs Go.Shelf Go.Sort Go.RowKit
variable {P : Program} {B : Base} {γ : List Value} {H : HP} {own : List OE} {w : World} {a : Act} {G : GTab}

def AV.num : AV → Value
  | .int k n => .int k n
  | _ => .nilFunc
def AV.vals (x : AV) : List Value := x.cells.map AV.num
def AV.isNum : AV → Bool
  | .int _ _ => true
  | _ => false
def AV.flatN : AV → Bool
  | .agg l => l.all AV.isNum
  | _ => false
theorem conc_num {x : AV} {v : Value} (h : x.isNum = true) : Conc γ H x v ↔ v = x.num := by
  cases x <;> simp only [AV.isNum, Bool.false_eq_true] at h
  simp [Conc, AV.num]
theorem concL_num : ∀ {l : List AV} {vs : List Value}, l.all AV.isNum = true → (ConcL γ H l vs ↔ vs = l.map AV.num)
  | [], vs, _ => by simp [ConcL]
  | x :: l, vs, h => by
    simp only [List.all_cons, Bool.and_eq_true] at h
    simp only [ConcL, List.map_cons]
    constructor
    · rintro ⟨v, vs', rfl, hv, hl⟩
      rw [(conc_num h.1).1 hv, (concL_num h.2).1 hl]
    · rintro rfl
      exact ⟨_, _, rfl, (conc_num h.1).2 rfl, (concL_num h.2).2 rfl⟩
theorem conc_flatN {x : AV} {v : Value} (h : x.flatN = true) : Conc γ H x v ↔ v = .agg ⟨x.vals⟩ := by
  cases x <;> simp only [AV.flatN, Bool.false_eq_true] at h
  simp only [Conc, AV.vals, AV.cells]
  constructor
  · rintro ⟨vs, rfl, hl⟩; rw [(concL_num h).1 hl]
  · rintro rfl; exact ⟨_, rfl, (concL_num h).2 rfl⟩
theorem concL_flatN : ∀ {l : List AV} {vs : List Value}, (∀ x ∈ l, x.flatN = true) → (ConcL γ H l vs ↔ vs = l.map fun x => .agg ⟨x.vals⟩)
  | [], vs, _ => by simp [ConcL]
  | x :: l, vs, h => by
    have h1 := h x (by simp)
    have h2 : ∀ y ∈ l, y.flatN = true := fun y hy => h y (by simp [hy])
    simp only [ConcL, List.map_cons]
    constructor
    · rintro ⟨v, vs', rfl, hv, hl⟩
      rw [(conc_flatN h1).1 hv, (concL_flatN h2).1 hl]
    · rintro rfl
      exact ⟨_, _, rfl, (conc_flatN h1).2 rfl, (concL_flatN h2).2 rfl⟩
theorem flatN_one {x : AV} (h : x.flatN = true) : ∀ v ∈ x.vals, v.oneCell' = true := by
  cases x <;> simp only [AV.flatN, Bool.false_eq_true] at h
  intro v hv
  simp only [AV.vals, AV.cells, List.mem_map] at hv
  obtain ⟨y, hy, rfl⟩ := hv
  have := List.all_eq_true.1 h y hy
  cases y <;> simp only [AV.isNum, Bool.false_eq_true] at this
  rfl
theorem OwnOK.grown (h : OwnOK B γ H own w) (os : Array Obj) : OwnOK B γ H own (grow w os) := by
  have keep : ∀ b, b < w.heap.size → (grow w os).heap[b]? = w.heap[b]? := fun b hb => by
    simp only [grow]; rw [Array.getElem?_append_left hb]
  refine h.called ⟨rfl, rfl, Fwd.refl w, by simp [grow], fun b hb _ => keep b hb, fun b o h => h, fun b o h _ => h, fun b o hb => ?_, rfl, fun i e h => by simp at h, fun i e v b h => by simp at h, fun i e v b h => by simp at h, fun i j e e' v v' b _ h => by simp at h⟩
  have := h.fro b o hb
  rw [keep b (Array.getElem?_eq_some_iff.1 this).1]; exact this
theorem grown_of {H' : HP} {w' : World} (h : OwnOK ⟨w, H, [], []⟩ [] H' [] w') : ∃ q os, w' = grow (w.drewN q) os := by
  refine ⟨w'.drawn - w.drawn, w'.heap.extract w.heap.size w'.heap.size, ?_⟩
  have h1 := h.os; have h2 := h.tape; have h3 := h.output.1; have h4 := h.output.2; have h5 := h.size
  have hh : w'.heap = w.heap ++ w'.heap.extract w.heap.size w'.heap.size := by
    apply Array.ext_getElem?
    intro k
    rw [Array.getElem?_append]
    split
    · rename_i hk; exact h.keep k hk (by simp)
    · rename_i hk
      rw [Array.getElem?_extract]
      simp only at h5
      split
      · congr 1; omega
      · rw [Array.getElem?_eq_none]; omega
  cases w; cases w'
  simp only at h1 h2 h3 h4 hh
  simp only [grow, World.drewN, World.mk.injEq]
  refine ⟨hh, h2, by omega, h1, h3⟩
theorem perm_unique {α : Type} {le : α → α → Prop} : ∀ {l m : List α}, l.Perm m → l.Pairwise le → m.Pairwise le → (∀ x ∈ l, ∀ y ∈ l, le x y → le y x → x = y) → l = m
  | [], m, hp, _, _, _ => by simpa using hp.symm
  | x :: l, [], hp, _, _, _ => by simp at hp
  | x :: l, y :: m, hp, hl, hm, hx => by
    have hxy : x = y := by
      have h1 : x ∈ y :: m := hp.mem_iff.1 (by simp)
      have h2 : y ∈ x :: l := hp.mem_iff.2 (by simp)
      rcases List.mem_cons.1 h1 with h1 | h1
      · exact h1
      rcases List.mem_cons.1 h2 with h2 | h2
      · exact h2.symm
      exact hx x (by simp) y (by simp [h2]) ((List.pairwise_cons.1 hl).1 y h2) ((List.pairwise_cons.1 hm).1 x h1)
    subst hxy
    rw [perm_unique hp.cons_inv (List.pairwise_cons.1 hl).2 (List.pairwise_cons.1 hm).2 (fun a ha b hb => hx a (by simp [ha]) b (by simp [hb]))]
theorem flatK_flat {α : Type} [Inhabited α] {enc : α → List Value} {k : Nat} (hk0 : 0 < k) (hk : ∀ x, (enc x).length = k) (d : Array α) : (flatK enc k d).toList = flat (d.toList.map fun x => Value.agg ⟨enc x⟩) := by
  apply List.ext_getElem?
  intro t
  rw [flat_get hk0 (by intro x hx; simp only [List.mem_map] at hx; obtain ⟨y, _, rfl⟩ := hx; simpa [Value.cells] using hk y)]
  simp only [flatK, List.getElem?_map, Array.getElem?_toList, Array.getElem?_map]
  by_cases ht : t < d.size * k
  · have h1 : t / k < d.size := (Nat.div_lt_iff_lt_mul hk0).2 ht
    have h2 : t % k < (enc d[t / k]).length := by rw [hk]; exact Nat.mod_lt _ hk0
    simp [ht, h1, Value.cells, h2, getElem!_pos]
  · have h1 : d.size ≤ t / k := (Nat.le_div_iff_mul_le hk0).2 (by omega)
    simp [ht, h1]
structure CmpOK (cf : AV → AV → Int) (xs : List AV) : Prop where
  irrefl : ∀ x ∈ xs, ¬ cf x x < 0
  trans : ∀ x ∈ xs, ∀ y ∈ xs, ∀ z ∈ xs, cf x y < 0 → cf y z < 0 → cf x z < 0
  ntrans : ∀ x ∈ xs, ∀ y ∈ xs, ∀ z ∈ xs, ¬ cf x y < 0 → ¬ cf y z < 0 → ¬ cf x z < 0
  anti : ∀ x ∈ xs, ∀ y ∈ xs, ¬ cf x y < 0 → ¬ cf y x < 0 → x = y
theorem seg_size {cs : Array Value} {vs : List Value} (h : Seg cs 0 vs) : vs.length ≤ cs.size := by
  by_cases h0 : vs.length = 0
  · omega
  · have := h (vs.length - 1) (by omega)
    rw [List.getElem?_eq_getElem (by omega)] at this
    have := (Array.getElem?_eq_some_iff.1 this).1
    omega
theorem sortFunc_ok {ρ : Ren} (L : SlLaysF0.n6 P ρ) {k : Nat} (hk0 : 0 < k) (aE : ∀ w, (isAgg (ρ.t 24)).run P w = .ok true w) (zE : ∀ w, (Go.sizeOf (ρ.t 24)).run P w = .ok k w) {f g : FuncId} (hf : f = ρ.f 6) (hb : BodyOK P f) {T i : Nat} {xs ys cs : List AV}
    (cf : AV → AV → Int) (hi : own[i]? = some (.row T k xs)) (hfl : ∀ x ∈ xs, x.flatN = true) (hlen : ∀ x ∈ xs, x.vals.length = k) (hn : xs.length ≤ 65536) (hcs : AV.closedL (AV.subL (frz1 (own.set i .gone)) cs) = true) (hO : CmpOK cf xs)
    (hcmp : ∀ x ∈ xs, ∀ y ∈ xs, CallA P G g ([x, y] ++ AV.subL (frz1 (own.set i .gone)) cs) (.int .i64 (cf x y))) (hbg : BodyOK P g) (hp : ys.Perm xs) (hs : ys.Pairwise fun x y => ¬ cf y x < 0) :
    CallO P G f [.osl i, .fn (.func g) [] cs] own (.tup []) (own.set i (.row T k ys)) := by
  refine ⟨hb, fun B γ H w vs hG hOw hargs => ?_⟩
  obtain ⟨v, us, rfl, hv, hus⟩ := hargs
  obtain ⟨u, us', rfl, hu, hnil⟩ := hus
  have e0 : us' = [] := hnil
  subst e0
  simp only [Conc] at hv hu
  obtain ⟨ws, ts, rfl, hws, hts⟩ := hu
  have e1 : ws = [] := hws
  subst e1
  have hent := hOw.ent i _ hi
  have hgv := hv.1
  by_cases hne : xs = []
  · subst hne
    have hy : ys = [] := by simpa using hp
    subst hy
    have hset : own.set i (.row T k []) = own := by
      apply List.ext_getElem?
      intro j
      rw [List.getElem?_set]
      split
      · rename_i hij; subst hij
        rw [if_pos (List.getElem?_eq_some_iff.1 hi).1, hi]
      · rfl
    obtain ⟨A, cap, hA⟩ : ∃ A cap, v = .slice A 0 cap := by
      rcases hent with ⟨_, hg⟩ | ⟨b, cap, c, vs, hg, _⟩
      · rw [hgv] at hg; cases hg; exact ⟨_, _, rfl⟩
      · rw [hgv] at hg; cases hg; exact ⟨_, _, rfl⟩
    subst hA
    rw [hf]
    refine (AnyF.slices_SortFunc_none L A cap (.func (.func g) ⟨[]⟩ ⟨ts⟩) w).mono ?_
    rintro e w' ⟨rfl, rfl⟩
    refine ⟨_, rfl, γ, H, Ext.refl γ, HLe.refl H, by rw [hset]; exact hOw, ?_⟩
    simp only [Conc]; exact ⟨[], rfl, rfl⟩
  · rcases hent with ⟨hx, _⟩ | ⟨b, cap, c, vs, hg, hcap, hcm, hbk, hsz, hl, hkk, hone, hseg⟩
    · exact absurd hx hne
    rw [hgv] at hg; cases hg
    have hvs := (concL_flatN hfl).1 hl
    let α := { x : AV // x ∈ xs }
    obtain ⟨x0, hx0⟩ := List.exists_mem_of_ne_nil _ hne
    haveI : Inhabited α := ⟨⟨x0, hx0⟩⟩
    let enc : α → List Value := fun x => x.val.vals
    have hkE : ∀ x : α, (enc x).length = k := fun x => hlen x.val x.property
    have h1E : ∀ x : α, ∀ v ∈ enc x, v.oneCell' = true := fun x => flatN_one (hfl x.val x.property)
    let cf' : α → α → Int := fun x y => cf x.val y.val
    have hSWO : SWO (ltOf cf') := by
      refine ⟨fun x => ?_, fun x y z h1 h2 => ?_, fun x y z h1 h2 => ?_⟩
      · simpa [ltOf, cf'] using hO.irrefl x.val x.property
      · simp only [ltOf, cf', decide_eq_true_eq] at *
        exact hO.trans _ x.property _ y.property _ z.property h1 h2
      · simp only [ltOf, cf', decide_eq_false_iff_not] at *
        exact hO.ntrans _ x.property _ y.property _ z.property h1 h2
    let d : Array α := xs.attach.toArray
    have hdl : d.toList.map (fun x => Value.agg ⟨enc x⟩) = xs.map fun x => .agg ⟨x.vals⟩ := by
      have := congrArg (List.map fun x : AV => Value.agg ⟨x.vals⟩) (List.attach_map_subtype_val xs)
      rw [List.map_map] at this
      exact this
    have hds : d.size = xs.length := by show xs.attach.toArray.size = xs.length; simp
    have hbl : b < w.heap.size := (Array.getElem?_eq_some_iff.1 hbk).1
    have hHn : H b = none := hOw.free i _ _ b hi (by simp) hgv rfl
    have hH : HoldsK enc k w b 0 d := by
      intro j hj
      have hFl : (flatK enc k d).toList = flat vs := by rw [flatK_flat hk0 hkE, hdl, hvs]
      have hjl : j < (flat vs).length := by rw [← hFl]; simpa using hj
      refine ⟨?_, ?_⟩
      · rw [getElem!_pos _ j hj]
        have := hseg j hjl
        rw [← hFl, List.getElem?_eq_getElem (by simpa using hj)] at this
        simp only [World.cell?, hbk]
        simpa using this
      · simp only [World.frozen?, hbk]; simp
    have hOg := hOw.upd (w' := w) (e' := .gone) hi (by simp) hgv rfl (fun _ _ => rfl) rfl rfl rfl rfl trivial
    have hGH : GOK G (hold γ H (own.set i .gone) w) := hG.mono (fun b o h => hold_le hOg _ _ (hOw.hle b o h))
    have hHn2 : hold γ H (own.set i .gone) w b = none := by
      unfold hold
      rw [if_neg, hHn]
      rintro ⟨j, e, u, hj, hne', hu, hub⟩
      obtain ⟨hji, hj'⟩ := getElem?_set_gone hj hne'
      exact hOw.apart j i e _ u _ b hji hj' hi hne' (by simp) hu hgv hub rfl
    have hcl : CmpLays P g ⟨ts⟩ enc k cf' b 0 d.size w := by
      intro m os dk hdk x y
      have hsub : HLe (hold γ H (own.set i .gone) w) (fun b' => (sortWorldK enc k w b 0 m dk os).heap[b']?) := by
        intro b' o hb'
        have hne' : b' ≠ b := by rintro rfl; rw [hHn2] at hb'; cases hb'
        have h1 := hold_sub hOg b' o hb'
        have h2 := (Array.getElem?_eq_some_iff.1 h1).1
        simp only [sortWorldK, grow, putRowK, putRow, mapBlock, Sort.ahead]
        rw [Array.getElem?_append_left (by simpa using h2), Array.getElem?_modify, if_neg (Ne.symm hne')]
        exact h1
      have hargs : ConcL [] (hold γ H (own.set i .gone) w) ([x.val, y.val] ++ AV.subL (frz1 (own.set i .gone)) cs) ([Value.agg ⟨enc x⟩, Value.agg ⟨enc y⟩] ++ ts) :=
        concL_append ⟨_, _, rfl, (conc_flatN (hfl _ x.property)).2 rfl, _, _, rfl, (conc_flatN (hfl _ y.property)).2 rfl, rfl⟩ (concL_close _ _ hcs (concL_sub (hold_le hOg) (conc_frz1 hOg) _ _ hts))
      have hc := (hcmp _ x.property _ y.property).2 (sortWorldK enc k w b 0 m dk os) _ _ hsub hGH hargs
      have e : (#[Value.agg (enc x).toArray, Value.agg (enc y).toArray] ++ (⟨ts⟩ : Array Value)) = (⟨[Value.agg ⟨enc x⟩, Value.agg ⟨enc y⟩] ++ ts⟩ : Array Value) := by apply Array.ext'; simp
      rw [e]
      refine hc.mono ?_
      rintro e' w' ⟨v, rfl, H', hO', hcv⟩
      rw [conc_int.1 hcv]
      exact ⟨rfl, grown_of hO'⟩
    have hmain := AnyQ.slices_SortFunc L k aE zE enc hkE h1E cf' hSWO g ⟨ts⟩ b 0 cap d w (fun args w => callFunc_run hbg args) hcl hH hbl (by rw [hds]; omega)
    rw [hf]
    rw [hds] at hmain
    refine hmain.mono ?_
    rintro e w' ⟨rfl, d', n, os, hperm, hsort, rfl⟩
    have hs' : d'.size = d.size := hperm.1
    have hpl : d'.toList.Perm d.toList := by
      have := hperm.2.2
      rw [← hds] at this
      have e1 : d'.extract 0 d.size = d' := by rw [← hs']; exact Array.extract_size
      have e2 : d.extract 0 d.size = d := Array.extract_size
      rwa [e1, e2] at this
    have hys : d'.toList.map Subtype.val = ys := by
      have hp1 : (d'.toList.map Subtype.val).Perm xs := by
        have := hpl.map Subtype.val
        rwa [show d.toList.map Subtype.val = xs from List.attach_map_subtype_val xs] at this
      refine perm_unique (le := fun x y => ¬ cf y x < 0) (hp1.trans hp.symm) ?_ hs ?_
      · rw [List.pairwise_map]
        rw [List.pairwise_iff_getElem]
        intro p q hp' hq' hpq
        have := hsort p q (Nat.zero_le _) hpq (by rw [← hds, ← hs']; simpa using hq')
        simp only [ltOf, cf', decide_eq_false_iff_not] at this
        rw [getElem!_pos d' p (by simpa using hp'), getElem!_pos d' q (by simpa using hq')] at this
        simpa using this
      · intro x hx y hy h1 h2
        exact hO.anti x (hp1.mem_iff.1 hx) y (hp1.mem_iff.1 hy) h2 h1
    have hfl' : ∀ x ∈ ys, x.flatN = true := fun x hx => hfl x (hp.mem_iff.1 hx)
    have hlen' : ∀ x ∈ ys, x.vals.length = k := fun x hx => hlen x (hp.mem_iff.1 hx)
    have hFl' : (flatK enc k d').toList = flat (ys.map fun x => .agg ⟨x.vals⟩) := by
      rw [flatK_flat hk0 hkE, ← hys, List.map_map]; rfl
    have hFlat : (flat vs).length = (flat (ys.map fun x => Value.agg ⟨x.vals⟩)).length := by
      have h1 : (flatK enc k d).toList = flat vs := by rw [flatK_flat hk0 hkE, hdl, hvs]
      rw [← h1, ← hFl']; simp [hs']
    have hup := hOw.upd (w' := putRowK enc k (Sort.ahead w n) b 0 d') (e' := .row T k ys) hi (by simp) hgv rfl
      (fun b' hb' => by simp only [putRowK, putRow, mapBlock, Sort.ahead]; rw [Array.getElem?_modify, if_neg (Ne.symm hb')]) (by simp [putRowK, putRow, mapBlock, Sort.ahead]) rfl rfl rfl
      (.inr ⟨b, cap, putCells id 0 (flatK enc k d') c, ys.map fun x => .agg ⟨x.vals⟩, by rw [hp.length_eq]; exact hgv, by rw [hp.length_eq]; exact hcap, hcm, ?_, by simp [putCells, hsz], (concL_flatN hfl').2 rfl, ?_, ?_, ?_⟩) (Nat.le_add_right _ _)
    · exact ⟨_, rfl, γ, H, Ext.refl γ, HLe.refl H, hup.grown os, by simp only [Conc]; exact ⟨[], rfl, rfl⟩⟩
    · simp only [putRowK, putRow, mapBlock, Sort.ahead]
      rw [Array.getElem?_modify, if_pos rfl, hbk]; rfl
    · intro x hx
      simp only [List.mem_map] at hx
      obtain ⟨y, hy, rfl⟩ := hx
      simpa [Value.cells] using hlen' y hy
    · intro x hx
      simp only [flat, List.mem_flatMap, List.mem_map] at hx
      obtain ⟨v, ⟨y, hy, rfl⟩, hxv⟩ := hx
      simp only [Value.cells] at hxv
      have := flatN_one (hfl' y hy) x (by simpa using hxv)
      constructor
      · rintro z rfl; simp [Value.oneCell'] at this
      · rintro z rfl; simp [Value.oneCell'] at this
    · intro j hj
      have hjc : j < c.size := by have := seg_size hseg; omega
      rw [← hFl'] at hj ⊢
      have hj' : j < (flatK enc k d').size := by simpa using hj
      simp only [putCells, Nat.zero_add, Array.getElem?_mapIdx]
      rw [Array.getElem?_eq_getElem hjc]
      simp only [Option.map_some]
      rw [if_pos ⟨Nat.zero_le _, hj'⟩, List.getElem?_eq_getElem hj, Nat.sub_zero, getElem!_pos _ j hj']
      simp
theorem sortInts_ok {ρ : Ren} (L : SlLaysN.n53 P ρ) {f : FuncId} (hf : f = ρ.f 53) (hb : BodyOK P f) {T i : Nat} {zs ys : List Int} (hi : own[i]? = some (.row T 1 (zs.map fun n => .int .i64 n))) (hn : zs.length ≤ 65536) (hp : ys.Perm zs) (hs : ys.Pairwise (· ≤ ·)) :
    CallO P G f [.osl i] own (.tup []) (own.set i (.row T 1 (ys.map fun n => .int .i64 n))) := by
  refine ⟨hb, fun B γ H w vs hG hOw hargs => ?_⟩
  obtain ⟨v, us, rfl, hv, hus⟩ := hargs
  have e0 : us = [] := hus
  subst e0
  simp only [Conc] at hv
  have hent := hOw.ent i _ hi
  have hgv := hv.1
  by_cases hne : zs = []
  · subst hne
    have hy : ys = [] := by simpa using hp
    subst hy
    have hset : own.set i (.row T 1 (List.map (fun n => AV.int .i64 n) [])) = own := by
      apply List.ext_getElem?
      intro j
      rw [List.getElem?_set]
      split
      · rename_i hij; subst hij
        rw [if_pos (List.getElem?_eq_some_iff.1 hi).1, hi]
      · rfl
    obtain ⟨A, cap, hA⟩ : ∃ A cap, v = .slice A 0 cap := by
      rcases hent with ⟨_, hg⟩ | ⟨b, cap, c, vs, hg, _⟩
      · rw [hgv] at hg; cases hg; exact ⟨_, _, rfl⟩
      · rw [hgv] at hg; cases hg; exact ⟨_, _, rfl⟩
    subst hA
    rw [hf]
    refine (AnyG.slices_Sort_int_none L A cap w).mono ?_
    rintro e w' ⟨rfl, rfl⟩
    refine ⟨_, rfl, γ, H, Ext.refl γ, HLe.refl H, by rw [hset]; exact hOw, ?_⟩
    simp only [Conc]; exact ⟨[], rfl, rfl⟩
  · rcases hent with ⟨hx, _⟩ | ⟨b, cap, c, vs, hg, hcap, hcm, hbk, hsz, hl, hkk, hone, hseg⟩
    · exact absurd (by simpa using hx) hne
    rw [hgv] at hg; cases hg
    have hall : (zs.map fun n => AV.int .i64 n).all AV.isNum = true := by simp [AV.isNum]
    have hvs := (concL_num hall).1 hl
    have hflat : ∀ l : List Int, flat ((l.map fun n => AV.int .i64 n).map AV.num) = l.map (Value.int .i64) := fun l => by
      induction l with
      | nil => rfl
      | cons x l ih => simp only [List.map_cons, AV.num] at ih ⊢; simp only [flat, List.flatMap_cons, Value.cells] at ih ⊢; rw [ih]; rfl
    have hbl : b < w.heap.size := (Array.getElem?_eq_some_iff.1 hbk).1
    have hH : Holds (Value.int .i64) w b 0 zs.toArray := by
      intro j hj
      have hj' : j < zs.length := by simpa using hj
      refine ⟨?_, ?_⟩
      · rw [getElem!_pos _ j hj]
        have := hseg j (by rw [hvs, hflat]; simpa using hj')
        rw [hvs, hflat] at this
        simp only [World.cell?, hbk]
        simpa [hj'] using this
      · simp only [World.frozen?, hbk]; simp
    have hmain := AnyG.slices_Sort_int L b 0 cap zs w hH hbl (by omega)
    rw [hf]
    have hlz : (zs.map fun n => AV.int .i64 n).length = zs.length := by simp
    rw [hlz] at *
    refine hmain.mono ?_
    rintro e w' ⟨rfl, n, os, rfl⟩
    have hys : zs.mergeSort (fun x y => decide (x ≤ y)) = ys := by
      refine perm_unique (le := (· ≤ ·)) ((List.mergeSort_perm zs _).trans hp.symm) ?_ hs (fun x _ y _ h1 h2 => by omega)
      have := List.pairwise_mergeSort (le := fun (x y : Int) => decide (x ≤ y)) (fun a b c h1 h2 => by simp at *; omega) (fun a b => by simp; omega) zs
      exact this.imp (fun h => by simpa using h)
    rw [hys]
    have hyl := hp.length_eq
    have hally : (ys.map fun n => AV.int .i64 n).all AV.isNum = true := by simp [AV.isNum]
    have hup := hOw.upd (w' := putRow (Value.int .i64) (Sort.ahead w n) b 0 ys.toArray) (e' := .row T 1 (ys.map fun n => .int .i64 n)) hi (by simp) hgv rfl
      (fun b' hb' => by simp only [putRow, mapBlock, Sort.ahead]; rw [Array.getElem?_modify, if_neg (Ne.symm hb')]) (by simp [putRow, mapBlock, Sort.ahead]) rfl rfl rfl
      (.inr ⟨b, cap, putCells (Value.int .i64) 0 ys.toArray c, (ys.map fun n => AV.int .i64 n).map AV.num, by simpa [hyl] using hgv, by simpa [hyl] using hcap, hcm, ?_, by simp [putCells, hsz], (concL_num hally).2 rfl, ?_, ?_, ?_⟩) (Nat.le_add_right _ _)
    · exact ⟨_, rfl, γ, H, Ext.refl γ, HLe.refl H, hup.grown os, by simp only [Conc]; exact ⟨[], rfl, rfl⟩⟩
    · simp only [putRow, mapBlock, Sort.ahead]
      rw [Array.getElem?_modify, if_pos rfl, hbk]; rfl
    · intro x hx
      simp only [List.mem_map] at hx
      obtain ⟨y, ⟨n, _, rfl⟩, rfl⟩ := hx
      rfl
    · intro x hx
      rw [hflat] at hx
      simp only [List.mem_map] at hx
      obtain ⟨n, _, rfl⟩ := hx
      constructor <;> (intro z hz; cases hz)
    · intro j hj
      rw [hflat] at hj ⊢
      have hj' : j < ys.length := by simpa using hj
      have hjc : j < c.size := by
        have := seg_size hseg
        rw [hvs, hflat] at this
        simp at this; omega
      simp only [putCells, Nat.zero_add, Array.getElem?_mapIdx]
      rw [Array.getElem?_eq_getElem hjc]
      simp [hj']
end Go.Fw

namespace Go.Fw
variable {P : Program} {B : Base} {γ : List Value} {H : HP} {own : List OE} {w : World} {a : Act} {G : GTab}

theorem regT {T : List Frame → Machine → Prop} {b : Frame} {k : List Item} {n : Nat} {ops : Array Oper} {l : List Nat} {e0 : List (Nat × AV)} {o0 : List OE} (orc : List (Nat × Orc)) (ts : List Nat) {env : List (Nat × AV)} {own : List OE} {obs : List Prop}
    (hG : GOK G B.H) (hS : Sat B ⟨n, e0, o0⟩ a w) (h : evReg P G ops orc l ts ⟨n, e0, o0⟩ = some (env, own, obs)) (hl : nodupB l = true) (ho : AllP obs) (hk : ∀ a' w', Sat B ⟨n, env, own⟩ a' w' → Runs P T b k a' w') :
    Runs P T b (.inRegion ops l :: k) a w := by
  have := evReg_sound (T := T) (b := b) (k := k) (rest := []) hG hS h (nodupB_spec hl) ho (fun a' w' hS' => runs_region_end (hk a' w' hS'))
  rwa [List.append_nil] at this
theorem map_at {α : Type} {f g : α → AV} {l : List α} {j : Nat} {x y : AV} (hx : (l.map f)[j]? = some x) (hy : (l.map g)[j]? = some y) : ∃ pre post r, l = pre ++ r :: post ∧ x = f r ∧ y = g r ∧ (l.map f).eraseIdx j = (pre ++ post).map f ∧ (l.map g).eraseIdx j = (pre ++ post).map g := by
  rw [List.getElem?_map] at hx hy
  obtain ⟨r, hr, rfl⟩ := Option.map_eq_some_iff.1 hx
  rw [hr] at hy
  simp only [Option.map_some, Option.some.injEq] at hy
  have hj := (List.getElem?_eq_some_iff.1 hr).1
  have hl : l = l.take j ++ r :: l.drop (j + 1) := by
    have h1 : l.drop j = r :: l.drop (j + 1) := by rw [List.drop_eq_getElem_cons hj, (List.getElem?_eq_some_iff.1 hr).2]
    rw [← h1, List.take_append_drop]
  refine ⟨l.take j, l.drop (j + 1), r, hl, rfl, hy.symm, ?_, ?_⟩
  · rw [List.eraseIdx_eq_take_drop_succ, List.map_append, List.map_take, List.map_drop]
  · rw [List.eraseIdx_eq_take_drop_succ, List.map_append, List.map_take, List.map_drop]
theorem region_nextL {α : Type} {kf vf : α → AV} {left : List α} {T : List Frame → Machine → Prop} {b : Frame} {k : List Item} {id : Nat} {ops : Array Oper} {S : AS} {o : Oper} {t d i : Nat} {cur : Option (AV × AV)} (hS : Sat B S a w) (ho : ops[0]? = some o) (hop : o.op = .next (.tmp t) false) (hg : o.guard = none) (hdst : o.dst = some d)
    (hd : Nat.blt d S.n = true) (ht : S.env.lookup t = some (.itr i)) (hi : S.own[i]? = some (.iter (left.map kf) (left.map vf) cur)) (hsz : List.range ops.size = 0 :: (List.range ops.size).tail)
    (h0 : left = [] → ∀ a' w', Sat B ⟨S.n, (d, .tup [.bool false]) :: S.env.filter (fun p => !(p.1 == d)), S.own⟩ a' w' → Runs P T b (.inRegion ops (List.range ops.size).tail :: k) a' w')
    (h1 : ∀ (pre post : List α) (r : α), left = pre ++ r :: post → ∀ a' w', Sat B ⟨S.n, (d, .tup [.bool true, kf r, vf r]) :: S.env.filter (fun p => !(p.1 == d)), S.own.set i (.iter ((pre ++ post).map kf) ((pre ++ post).map vf) (some (kf r, vf r)))⟩ a' w' → Runs P T b (.inRegion ops (List.range ops.size).tail :: k) a' w') :
    Runs P T b (.code (.region id ops false) :: k) a w := by
  refine region_next hS ho hop hg hdst hd ht hi hsz (fun h a' w' hS' => h0 (by simpa using h) a' w' hS') (fun j x y hx hy a' w' hS' => ?_)
  obtain ⟨pre, post, r, hl, rfl, rfl, e1, e2⟩ := map_at hx hy
  rw [e1, e2] at hS'
  exact h1 pre post r hl a' w' hS'
theorem perm_mid {α : Type} {done pre post K : List α} {r : α} {left : List α} (h : (done ++ left).Perm K) (hl : left = pre ++ r :: post) : ((done ++ [r]) ++ (pre ++ post)).Perm K := by
  subst hl
  refine List.Perm.trans ?_ h
  rw [List.append_assoc]
  exact List.Perm.append_left _ (by simpa using List.perm_middle.symm)
theorem mem_left {α : Type} {done pre post K : List α} {r : α} {left : List α} (h : (done ++ left).Perm K) (hl : left = pre ++ r :: post) : r ∈ K := h.mem_iff.1 (by rw [hl]; simp)
end Go.Fw

namespace Go.Fw
variable {P : Program} {B : Base} {γ : List Value} {H : HP} {own : List OE} {w : World} {a : Act} {G : GTab}

def LoopObj (D : Nat) (RL BL : Obj) : Prop := ∃ fn tmps ps assign body, RL = readyL fn tmps ps assign body D ∧ BL = busyL fn tmps ps assign body D
theorem round_begin2 {T : List Frame → Machine → Prop} {k : List Item} {l : Nat} {f : FuncId} {D m : Nat} {RL BL : Obj} {S : AS} (hL : LoopObj D RL BL) (hS : Sat B S a w) (hm : S.own[m]? = some (.obj (some l) RL))
    (hk : ∀ w', Sat B ⟨S.n, S.env, S.own.set m (.obj (some l) BL)⟩ a w' → Runs P T (frameR f l) k a w') : Runs P T (frameR f l) (.beginRound :: k) a w := by
  obtain ⟨fn, tmps, ps, assign, body, rfl, rfl⟩ := hL
  exact round_begin hS hm hk
theorem round_end2 {l : Nat} {f : FuncId} {D m : Nat} {RL BL : Obj} {S : AS} {own' : List OE} (hL : LoopObj D RL BL) (hS : Sat B S a w) (hm : S.own[m]? = some (.obj (some l) BL)) (ho : own' = S.own.set m (.obj (some l) RL)) : Runs P (RoundT P B own') (frameR f l) [] a w := by
  obtain ⟨fn, tmps, ps, assign, body, rfl, rfl⟩ := hL
  exact round_end hS hm ho
theorem rangeFunc2 {T : List Frame → Machine → Prop} {b : Frame} {k : List Item} {g : Operand} {ps : Array Tmp} {assign body : Code} {S : AS} {f : FuncId} {fs cs : List AV} {elems : List (List AV)} (Own : Nat → List OE) (env : List (Nat × AV))
    (hS : Sat B S a w) (hBd : B.df = []) (hG : GOK G B.H) (hro : b.roundOf = none) (hg : opnd G (rsOf S).ρ none g = some (.fn (.func f) fs cs)) (hcl : (AV.closedL fs && AV.closedL cs) = true) (hIt : IterA P G f fs cs elems)
    (hOwn : S.own = Own 0) (hng : ∀ j, ∀ e ∈ Own j, e ≠ .gone) (hpin : ∀ j, pinned (Own j) env) (hsame : ∀ j, samePins (Own j) (Own (j + 1)) env) (henv : ∀ p ∈ env, p ∈ S.env)
    (hps : nodupB ps.toList = true) (hpl : (ps.toList.all fun t => Nat.blt t S.n) = true) (hpe : (env.all fun p => !(ps.toList.any fun t => t == p.1)) = true) (hlen : ∀ e ∈ elems, ps.toList.length = e.length)
    (hround : ∀ (j : Nat) (e : List AV) (L D : Nat) (RL BL : Obj) (B' : Base) (a' : Act), LoopObj D RL BL → elems[j]? = some e → B'.df = [] → GOK G B'.H → Sat B' ⟨S.n, ps.toList.zip e ++ env, Own j ++ [.obj (some D) (.deferred (some [])), .obj (some L) RL]⟩ a' B'.w →
      Runs P (RoundT P B' (Own (j + 1) ++ [.obj (some D) (.deferred (some [])), .obj (some L) RL])) (frameR b.fn L) [.code assign, .beginRound, .code body] a' B'.w)
    (hk : ∀ (D : Nat) (a' : Act) (w' : World), Sat { B with df := [markOf D] } ⟨S.n, env, Own elems.length ++ [.obj (some D) (.deferred (some [])), .gone]⟩ a' w' → Runs P T b k a' w') :
    Runs P T b (.code (.rangeFunc g ps assign body) :: k) a w :=
  rangeFunc Own env hS hBd hG hro hg hcl hIt hOwn hng hpin hsame henv hps hpl hpe hlen (fun j e L D B' a' he hBd' hG' hS' => hround j e L D _ _ B' a' ⟨_, _, _, _, _, rfl, rfl⟩ he hBd' hG' hS') hk
theorem regA {T : List Frame → Machine → Prop} {b : Frame} {k : List Item} {id n : Nat} {ops : Array Oper} (l rest : List Nat) {e0 : List (Nat × AV)} {o0 : List OE} (orc : List (Nat × Orc)) (ts : List Nat) {env : List (Nat × AV)} {own : List OE} {obs : List Prop}
    (hG : GOK G B.H) (hS : Sat B ⟨n, e0, o0⟩ a w) (hl : List.range ops.size = l ++ rest) (h : evReg P G ops orc l ts ⟨n, e0, o0⟩ = some (env, own, obs)) (hn : nodupB l = true) (ho : AllP obs) (hk : ∀ a' w', Sat B ⟨n, env, own⟩ a' w' → Runs P T b (.inRegion ops rest :: k) a' w') :
    Runs P T b (.code (.region id ops false) :: k) a w := by
  refine runs_region ?_
  rw [hl]
  exact evReg_sound hG hS h (nodupB_spec hn) ho hk
end Go.Fw

namespace Go.Fw
variable {P : Program} {B : Base} {γ : List Value} {H : HP} {own : List OE} {w : World} {a : Act} {G : GTab}

end Go.Fw

namespace Go.Fw
open Go.ChangeShapes Go.RowKit

def heapH (w : World) : HP := fun b => w.heap[b]?
def Rd (P : Program) {α : Type} (t : TypeId) (av : α → AV) : Prop :=
  ∀ (H : Type) (enc : TypeId × Value → H) (w : World) (base : Nat) (spare : Nat → Bool) (held : Bool) (fuel : Nat) (cs : List Value) (x : DataW H × List MemPlace),
    DataW.trod enc P w base spare held fuel t cs = some x → ∃ (r : α) (v : Value), Conc [] (heapH w) (av r) v ∧ v.cells.toList = cs
def Rd1 (P : Program) {α : Type} (t : TypeId) (av : α → AV) : Prop :=
  ∀ (H : Type) (enc : TypeId × Value → H) (w : World) (base : Nat) (spare : Nat → Bool) (held : Bool) (fuel : Nat) (cs : List Value) (x : DataW H × List MemPlace),
    DataW.trod enc P w base spare held fuel t cs = some x → ∃ (r : α) (v : Value), Conc [] (heapH w) (av r) v ∧ cs = [v] ∧ v.cells.toList = [v]
section
variable {P : Program} {H : Type} {enc : TypeId × Value → H} {w : World} {base : Nat} {spare : Nat → Bool} {held : Bool} {fuel : Nat} {t : TypeId} {cs : List Value} {x : DataW H × List MemPlace}

theorem fld_int {fs : Array Field} (ht : P.underlying t = some (.struct fs)) (h : DataW.trod enc P w base spare held fuel t cs = some x) {k : IntKind} {i : Nat} {f : Field} (hf : fs[i]? = some f)
    (hk : P.underlying f.type = some (.int k)) (hc : P.cellsOf f.type = 1) : ∃ n, cs[f.offset]? = some (.int k n) ∧ (Lit.int k n).wf = true := by
  obtain ⟨xs, m, rfl, hx, hl, hn, hel⟩ := DataW.trod_struct ht h
  have h1 := hel i f hf
  have hi : i < fs.size := (Array.getElem?_eq_some_iff.1 hf).1
  rw [List.getElem?_eq_getElem (by omega : i < xs.length)] at h1
  obtain ⟨n, e1, _, e3⟩ := DataW.trod_int hk h1
  rw [hc] at e1
  refine ⟨n, ?_, e3⟩
  have := congrArg (fun l => l[0]?) e1
  simpa [List.getElem?_take, List.getElem?_drop] using this
theorem fld_rd {α : Type} {av : α → AV} {fs : Array Field} (ht : P.underlying t = some (.struct fs)) (h : DataW.trod enc P w base spare held fuel t cs = some x) {i : Nat} {f : Field} (hf : fs[i]? = some f)
    (hr : Rd1 P f.type av) (hc : P.cellsOf f.type = 1) : ∃ (r : α) (v : Value), Conc [] (heapH w) (av r) v ∧ cs[f.offset]? = some v := by
  obtain ⟨xs, m, rfl, hx, hl, hn, hel⟩ := DataW.trod_struct ht h
  have h1 := hel i f hf
  have hi : i < fs.size := (Array.getElem?_eq_some_iff.1 hf).1
  rw [List.getElem?_eq_getElem (by omega : i < xs.length)] at h1
  obtain ⟨r, v, h2, e1, _⟩ := hr _ _ _ _ _ _ _ _ _ h1
  rw [hc] at e1
  refine ⟨r, v, h2, ?_⟩
  have := congrArg (fun l => l[0]?) e1
  simpa [List.getElem?_take, List.getElem?_drop] using this
theorem cells_of {fs : Array Field} (ht : P.underlying t = some (.struct fs)) (h : DataW.trod enc P w base spare held fuel t cs = some x) : cs.length = P.cellsOf t := by
  obtain ⟨_, _, _, _, hl, _, _⟩ := DataW.trod_struct ht h
  exact hl
theorem cells?_get {a : Addr} {n : Nat} {l : List Value} (h : w.cells? base a n = some l) : l.length = n ∧ ∀ i, i < n → w.cell? (a.add i) = l[i]? := by
  unfold World.cells? at h
  split at h
  · refine ⟨by simpa using mapM_some_length h, fun i hi => ?_⟩
    have := mapM_some_get h i i (by simp [hi])
    exact this
  · cases h
theorem cell?_at {b off : Nat} {s : Option Nat} {v : Value} (h : w.cell? ⟨b, off, s⟩ = some v) : s = none ∧ ∃ c T fz, w.heap[b]? = some (.cells c T fz) ∧ c[off]? = some v := by
  unfold World.cell? at h
  split at h
  · rename_i c T fz hc
    cases s with
    | none => exact ⟨rfl, c, T, fz, hc, by simpa using h⟩
    | some s => simp at h
  · cases h
theorem rd_slice {α : Type} {av : α → AV} {t e : TypeId} (ht : P.underlying t = some (.slice e)) (he : Rd P e av) (hk : 0 < P.cellsOf e) : Rd1 P t (fun l : List α => .sl (l.map av)) := by
  intro H enc w base spare held fuel cs x h
  rcases DataW.trod_slice ht h with ⟨rfl, _⟩ | ⟨a, len, cap, elems, rest, n, rfl, rfl, _, _, hle, hmax, hlen, hel, _, _⟩
  · exact ⟨[], .slice none 0 0, by simp [Conc, ConcL], rfl, rfl⟩
  have key : ∀ m, m ≤ len → ∃ (l : List α) (vs : List Value), l.length = m ∧ vs.length = m ∧ ConcL [] (heapH w) (l.map av) vs ∧ (∀ u ∈ vs, u.cells.size = P.cellsOf e) ∧
      ∀ i, i < m → ∃ v, vs[i]? = some v ∧ w.cells? base (a.add (i * P.cellsOf e)) (P.cellsOf e) = some v.cells.toList := by
    intro m
    induction m with
    | zero => exact fun _ => ⟨[], [], rfl, rfl, by simp [ConcL], by simp, fun i hi => by omega⟩
    | succ m ih =>
      intro hm
      obtain ⟨l, vs, h1, h2, h3, h4, h5⟩ := ih (by omega)
      have h6 := hel m (by omega)
      rw [List.getElem?_eq_getElem (by omega : m < elems.length)] at h6
      obtain ⟨ci, h7, h8⟩ := Option.bind_eq_some_iff.1 h6
      obtain ⟨r, v, h9, h10⟩ := he _ _ _ _ _ _ _ _ _ h8
      refine ⟨l ++ [r], vs ++ [v], by simp [h1], by simp [h2], ?_, ?_, ?_⟩
      · rw [List.map_append]
        exact concL_append h3 (by simpa [ConcL] using h9)
      · intro u hu
        rcases List.mem_append.1 hu with hu | hu
        · exact h4 u hu
        · obtain rfl : u = v := by simpa using hu
          have := (cells?_get h7).1
          rw [← h10] at this
          simpa using this
      · intro i hi
        by_cases hi' : i < m
        · obtain ⟨u, h11, h12⟩ := h5 i hi'
          exact ⟨u, by rw [List.getElem?_append_left (by omega)]; exact h11, h12⟩
        · obtain rfl : i = m := by omega
          exact ⟨v, by rw [List.getElem?_append_right (by omega)]; simp [h2], by rw [h10]; exact h7⟩
  obtain ⟨l, vs, h1, h2, h3, h4, h5⟩ := key len (Nat.le_refl _)
  refine ⟨l, .slice (some a) len cap, ?_, rfl, rfl⟩
  simp only [Conc]
  refine ⟨some a, cap, P.cellsOf e, vs, by simp [h1], by simpa [h1] using hle, h3, h4, fun hne => ?_⟩
  obtain ⟨b, off, s⟩ := a
  have hpos : 0 < len := by
    rcases Nat.eq_zero_or_pos len with h0 | h0
    · exfalso; apply hne; rw [h0] at h1; simp [List.length_eq_zero_iff.1 h1]
    · exact h0
  have cell : ∀ i j, i < len → j < P.cellsOf e → w.cell? (((⟨b, off, s⟩ : Addr).add (i * P.cellsOf e)).add j) = (flat vs)[i * P.cellsOf e + j]? := by
    intro i j hi hj
    obtain ⟨v, h6, h7⟩ := h5 i hi
    obtain ⟨_, h8⟩ := cells?_get h7
    have h9 := h8 j hj
    rw [flat_get hk h4]
    have e1 : (i * P.cellsOf e + j) / P.cellsOf e = i := by
      rw [Nat.add_comm, Nat.add_mul_div_right _ _ hk, Nat.div_eq_of_lt hj, Nat.zero_add]
    have e2 : (i * P.cellsOf e + j) % P.cellsOf e = j := by
      rw [Nat.add_comm, Nat.add_mul_mod_self_right, Nat.mod_eq_of_lt hj]
    rw [e1, e2, h6]
    simpa using h9
  have hfl : (flat vs).length = len * P.cellsOf e := by rw [flat_length h4, h2]
  have h0 := cell 0 0 hpos hk
  have hlt : 0 < (flat vs).length := by rw [hfl]; exact Nat.mul_pos hpos hk
  have ea : ((⟨b, off, s⟩ : Addr).add (0 * P.cellsOf e)).add 0 = ⟨b, off, s⟩ := by simp [Addr.add]
  rw [ea] at h0
  simp only [Nat.zero_mul, Nat.add_zero] at h0
  rw [List.getElem?_eq_getElem hlt] at h0
  obtain ⟨rfl, c, T, fz, hb, _⟩ := cell?_at h0
  refine ⟨b, off, c, T, fz, rfl, hb, fun j hj => ?_⟩
  have hj' : j < len * P.cellsOf e := by rw [← hfl]; exact hj
  have hd : j / P.cellsOf e < len := (Nat.div_lt_iff_lt_mul hk).2 hj'
  have hm := Nat.mod_lt j hk
  have hjj : j / P.cellsOf e * P.cellsOf e + j % P.cellsOf e = j := by rw [Nat.mul_comm]; exact Nat.div_add_mod j _
  have := cell _ _ hd hm
  rw [Go.WideShapes.add_plain, Go.WideShapes.add_plain, Nat.add_assoc, hjj] at this
  rw [← this]
  simp [World.cell?, hb]
theorem arg_struct {α : Type} {av : α → AV} {r : Reach} {b0 : Nat} {fs : Array Field} {v : Value} {d : DataW H} {ps : List MemPlace} (ht : P.underlying t = some (.struct fs)) (hr : Rd P t av) (hav : ∀ z, ∃ l, av z = .agg l) (hval : Value.okWide P w r b0 t v) (hd : DataW.Trod enc P w base spare held t v d ps) :
    ∃ z, Conc [] (heapH w) (av z) v := by
  obtain ⟨cs, rfl, _⟩ := Go.WideShapes.okWide_struct ht hval
  obtain ⟨fuel, hf⟩ := hd
  obtain ⟨z, v, h1, h2⟩ := hr _ _ _ _ _ _ _ _ _ hf
  refine ⟨z, ?_⟩
  obtain ⟨l, hl⟩ := hav z
  have h1' := h1
  rw [hl] at h1'
  obtain ⟨us, rfl, _⟩ := h1'
  have : (⟨us⟩ : Array Value) = cs := Array.ext' (by simpa [Value.cells] using h2)
  rwa [this] at h1
theorem arg_one {α : Type} {av : α → AV} {v : Value} {d : DataW H} {ps : List MemPlace} (hr : Rd1 P t av) (hv : v.cells.toList = [v]) (hd : DataW.Trod enc P w base spare held t v d ps) :
    ∃ z, Conc [] (heapH w) (av z) v := by
  obtain ⟨fuel, hf⟩ := hd
  obtain ⟨z, u, h1, h2, _⟩ := hr _ _ _ _ _ _ _ _ _ hf
  rw [hv] at h2
  obtain rfl : v = u := by simpa using h2
  exact ⟨z, h1⟩
theorem arg_slice {α : Type} {av : List α → AV} {e : TypeId} {r : Reach} {b0 : Nat} {v : Value} {d : DataW H} {ps : List MemPlace} (ht : P.underlying t = some (.slice e)) (hr : Rd1 P t av) (hval : Value.okWide P w r b0 t v) (hd : DataW.Trod enc P w base spare held t v d ps) :
    ∃ z, Conc [] (heapH w) (av z) v := by
  obtain ⟨a, len, cap, rfl⟩ := Go.WideShapes.okWide_slice ht hval
  exact arg_one hr rfl hd
theorem arg_i64 {r : Reach} {b0 : Nat} {v : Value} {d : DataW H} {ps : List MemPlace} (ht : P.underlying t = some (.int .i64)) (hval : Value.okWide P w r b0 t v) (hd : DataW.Trod enc P w base spare held t v d ps) :
    ∃ z : Int, Conc [] (heapH w) (.int .i64 z) v := by
  obtain ⟨n, rfl⟩ := Go.WideShapes.okWide_int ht hval
  exact ⟨n, by simp [Conc]⟩
theorem trodAll_five {t t' t'' t3 t4 : TypeId} {args : Array Value} {ds : List (DataW H)} {ps : List MemPlace} (h : DataW.TrodAll enc P w base spare held [t, t', t'', t3, t4] args.toList ds ps) :
    ∃ v v' v'' v3 v4 d d' d'' d3 d4 p p' p'' p3 p4, args = #[v, v', v'', v3, v4] ∧ ds = [d, d', d'', d3, d4] ∧ ps = p ++ p' ++ p'' ++ p3 ++ p4 ∧ DataW.Trod enc P w base spare held t v d p ∧ DataW.Trod enc P w base spare held t' v' d' p' ∧ DataW.Trod enc P w base spare held t'' v'' d'' p'' ∧ DataW.Trod enc P w base spare held t3 v3 d3 p3 ∧ DataW.Trod enc P w base spare held t4 v4 d4 p4 := by
  obtain ⟨v, vs, d, ds', p, q, hargs, rfl, rfl, hd, hrest⟩ := trodAll_cons h
  obtain ⟨v', vs', d', ds'', p', q', rfl, rfl, rfl, hd', hrest'⟩ := trodAll_cons hrest
  obtain ⟨v'', vs'', d'', ds''', p'', q'', rfl, rfl, rfl, hd'', hrest''⟩ := trodAll_cons hrest'
  obtain ⟨v3, vs3, d3, ds3, p3, q3, rfl, rfl, rfl, hd3, hrest3⟩ := trodAll_cons hrest''
  obtain ⟨v4, vs4, d4, ds4, p4, q4, rfl, rfl, rfl, hd4, hrest4⟩ := trodAll_cons hrest3
  obtain ⟨rfl, rfl, rfl⟩ := trodAll_nil hrest4
  exact ⟨v, v', v'', v3, v4, d, d', d'', d3, d4, p, p', p'', p3, p4, by cases args; simp_all, rfl, by simp, hd, hd', hd'', hd3, hd4⟩
end

theorem OwnOK.below {B : Base} {H : HP} {w : World} (h : OwnOK B [] H [] w) (hγ : B.γ = []) : Below B.w.heap.size B.w w :=
  ⟨h.os, h.tape, h.output.1, h.size, fun k hk => h.keep k hk (by rw [hγ]; simp)⟩
theorem carry_all {P : Program} {H : Type} {enc : TypeId × Value → H} (hl : laidOutB P = true) {W W' : World} (hb : Below W.heap.size W W') :
    ∀ {ts : List TypeId} {vs : List Value} {ds : List (DataW H)} {ps : List MemPlace}, (ts.all fun t => P.readableRec t && decide (t < P.types.size)) = true → DataW.TrodAll enc P W 0 (fun _ => true) true ts vs ds ps → DataW.TrodAll enc P W' 0 (fun b => decide (b < W.heap.size)) true ts vs ds ps
  | [], [], [], _, _, h => h
  | t :: ts, v :: vs, d :: ds, ps, ht, h => by
    have hlt := h.lt
    obtain ⟨p, q, h1, h2, rfl⟩ := h
    simp only [List.all_cons, Bool.and_eq_true, decide_eq_true_eq] at ht
    exact ⟨p, q, Below.trod hl ht.1.1 ht.1.2 h1 hb (fun x hx => hlt x (List.mem_append_left _ hx)), carry_all hl hb ht.2 h2, rfl⟩
  | [], [], _ :: _, _, _, h => h.elim
  | [], _ :: _, _, _, _, h => h.elim
  | _ :: _, [], _, _, _, h => h.elim
  | _ :: _, _ :: _, [], _, _, h => h.elim
theorem post_true {H : Type} {enc : TypeId × Value → H} {P : Program} {f : Func} {s : ChangeSpec} {W W' : World} {args : Array Value} {ds gs : List (DataW H)} {before : List MemPlace} {tb : TypeId}
    (hl : laidOutB P = true) (hr : (f.params.toList.all fun t => P.readableRec t && decide (t < P.types.size)) = true) (hres : f.resultTypes = #[tb]) (hbool : P.underlying tb = some .bool)
    (hW : DataW.Whole enc P f.params.toList s.vars false W args.toList ds gs before) (hv : s.vars = []) (hfn : s.fn H (ds ++ gs) = { results := [.lit (.bool true)], args := ds }) (hb : Below W.heap.size W W') :
    s.post enc P f false true false false W args (.bool true) W' := by
  have hW0 := hW
  obtain ⟨p, q, h1, h2, h3, h4, h5⟩ := hW
  refine ⟨ds, gs, before, [], p, [], hW0, ?_, ?_, ?_, Below.frame hb _, fun h => by cases h⟩
  · rw [hfn, hres]
    exact trodAll_mk1 (shut_bool hbool _)
  · rw [hfn]
    exact carry_all hl hb hr h1
  · rw [hfn, hv]; rfl
end Go.Fw

namespace Go.Fw

section
variable {P : Program} {B : Base} {G : GTab} {w : World} {a : Act}
theorem reg {T : List Frame → Machine → Prop} {b : Frame} {k : List Item} {id n : Nat} {ops : Array Oper} {e0 : List (Nat × AV)} {o0 : List OE} (orc : List (Nat × Orc)) (ts : List Nat) {env : List (Nat × AV)} {own : List OE} {obs : List Prop}
    (hG : GOK G B.H) (hS : Sat B ⟨n, e0, o0⟩ a w) (h : evReg P G ops orc (List.range ops.size) ts ⟨n, e0, o0⟩ = some (env, own, obs)) (ho : AllP obs) (hk : ∀ a' w', Sat B ⟨n, env, own⟩ a' w' → Runs P T b k a' w') :
    Runs P T b (.code (.region id ops false) :: k) a w := region orc ts hG hS h ho hk
theorem drw {T : List Frame → Machine → Prop} {b : Frame} {k : List Item} {id n : Nat} {ops : Array Oper} {e0 : List (Nat × AV)} {o0 : List OE} (orc : List (Nat × Orc)) (ts : List Nat) {env : List (Nat × AV)} {own : List OE} {obs : List Prop}
    (hG : GOK G B.H) (hS : Sat B ⟨n, e0, o0⟩ a w) (h : evReg P G ops orc (List.range ops.size) ts ⟨n, e0, o0⟩ = some (env, own, obs)) (hok : drawOK P G ops orc ⟨n, e0, o0⟩ = true) (ho : AllP obs) (hk : ∀ a' w', Sat B ⟨n, env, own⟩ a' w' → Runs P T b k a' w') :
    Runs P T b (.code (.region id ops true) :: k) a w := draw orc ts hG hS h hok ho hk
end

abbrev U8 := Fin 256
def U8.i (k : U8) : Int := (k.val : Int)
theorem U8.inj {a b : U8} : U8.i a = U8.i b ↔ a = b := by
  unfold U8.i
  constructor
  · intro h; exact Fin.ext (by omega)
  · intro h; rw [h]
theorem U8.nn (k : U8) : 0 ≤ U8.i k := by unfold U8.i; omega
theorem U8.lt (k : U8) : U8.i k < 256 := by unfold U8.i; omega
theorem wrap_i64 {n : Int} (h : -9223372036854775808 ≤ n) (h' : n < 9223372036854775808) : IntKind.i64.wrap n = n := by
  simp only [IntKind.wrap, IntKind.bits, IntKind.signed]
  first
    | omega
    | (simp; omega)
structure Report where
  Id : Int
  Source : Int
  Account : Int
  Made : Int
  About : Int
  Kind : U8
  Cents : Int
  Of : Int
  deriving DecidableEq
def Report.av (r : Report) : AV := .agg [.int .i64 r.Id, .int .i64 r.Source, .int .i64 r.Account, .int .i64 r.Made, .int .i64 r.About, .int .u8 (U8.i r.Kind), .int .i64 r.Cents, .int .i64 r.Of]
structure Law where
  Land : Int
  Kind : U8
  Base : U8
  Keep : Int
  deriving DecidableEq
def Law.av (r : Law) : AV := .agg [.int .i64 r.Land, .int .u8 (U8.i r.Kind), .int .u8 (U8.i r.Base), .int .i64 r.Keep]
structure Still where
  Land : Int
  Days : Int
  Means : U8
  deriving DecidableEq
def Still.av (r : Still) : AV := .agg [.int .i64 r.Land, .int .i64 r.Days, .int .u8 (U8.i r.Means)]
structure Home where
  Account : Int
  Land : Int
  deriving DecidableEq
def Home.av (r : Home) : AV := .agg [.int .i64 r.Account, .int .i64 r.Land]
structure Code where
  Laws : List Law
  Stills : List Still
  deriving DecidableEq
def Code.av (c : Code) : AV := .agg [.sl (c.Laws.map Law.av), .sl (c.Stills.map Still.av)]
def ia (n : Int) : AV := .int .i64 n
def GT : GTab := [(1, [.nilfn, .fn (.func 186) [] [], .fn (.func 187) [] [], .fn (.func 188) [] []]),
  (2, [ia 0, ia 0, ia 1000000000000, ia 1000000000000, ia 1000000000000, ia 10000, ia 1000000000000, ia 0, ia 1000000000000, ia 0])]
theorem idx_ok {α : Type} {av : α → AV} {l pre rest : List α} {x : α} (h : l = pre ++ x :: rest) : 0 ≤ ((pre.length : Nat) : Int) ∧ (l.map av)[((pre.length : Nat) : Int).toNat]? = some (av x) := by
  subst h; simp
theorem lt_yes {α : Type} {l pre rest : List α} {x : α} (h : l = pre ++ x :: rest) : decide (((pre.length : Nat) : Int) < ((l.length : Nat) : Int)) = true := by
  subst h; simp; omega
theorem lt_no {α : Type} {l pre : List α} (h : l = pre ++ []) : decide (((pre.length : Nat) : Int) < ((l.length : Nat) : Int)) = false := by
  subst h; simp
theorem len_map {α : Type} {av : α → AV} {l : List α} : (((l.map av).length : Nat) : Int) = ((l.length : Nat) : Int) := by simp
theorem next_len {α : Type} {l pre rest : List α} {x : α} (h : l = pre ++ x :: rest) (hl : l.length ≤ 65536) : IntKind.i64.wrap (((pre.length : Nat) : Int) + 1) = (((pre ++ [x]).length : Nat) : Int) := by
  subst h
  simp at hl
  rw [wrap_i64 (by omega) (by omega)]; simp
theorem next_eq {α : Type} {l pre rest : List α} {x : α} (h : l = pre ++ x :: rest) : l = (pre ++ [x]) ++ rest := by rw [h]; simp
end Go.Fw

namespace Go.Proofs
open Go.Shelf
def Tryz.sortF_ren : Go.Shelf.Ren := ⟨fun | 6 => 138 | 15 => 90 | 14 => 149 | 28 => 133 | 29 => 134 | 20 => 153 | 21 => 154 | 22 => 155 | 23 => 156 | 24 => 157 | 25 => 158 | 26 => 159 | 27 => 160 | 46 => 162 | 47 => 145 | 48 => 146 | 49 => 163 | 50 => 164 | 57 => 165 | n => n, fun | 22 => 27 | 24 => 73 | 25 => 207 | 3 => 3 | 39 => 172 | 0 => 0 | 53 => 80 | 55 => 202 | 4 => 4 | 46 => 194 | 45 => 193 | 50 => 100 | 5 => 5 | 9 => 9 | 66 => 211 | 70 => 215 | 76 => 219 | 77 => 33 | n => n, fun | n => n⟩
theorem Tryz.sortF : Go.Proofs.SlLaysF0.n6 Tryz.prog Tryz.sortF_ren := {
  mixed := by kernel_rfl
  f6 := ⟨Tryz.f138.name, by decide, Tryz.func138.trans (congrArg some (by kernel_rfl))⟩
  f14 := ⟨Tryz.f149.name, by decide, Tryz.func149.trans (congrArg some (by kernel_rfl))⟩
  f15 := Tryz.func90.trans (congrArg some (by kernel_rfl))
  f20 := ⟨Tryz.f153.name, by decide, Tryz.func153.trans (congrArg some (by kernel_rfl))⟩
  f21 := ⟨Tryz.f154.name, by decide, Tryz.func154.trans (congrArg some (by kernel_rfl))⟩
  f22 := ⟨Tryz.f155.name, by decide, Tryz.func155.trans (congrArg some (by kernel_rfl))⟩
  f23 := ⟨Tryz.f156.name, by decide, Tryz.func156.trans (congrArg some (by kernel_rfl))⟩
  f24 := ⟨Tryz.f157.name, by decide, Tryz.func157.trans (congrArg some (by kernel_rfl))⟩
  f25 := ⟨Tryz.f158.name, by decide, Tryz.func158.trans (congrArg some (by kernel_rfl))⟩
  f26 := ⟨Tryz.f159.name, by decide, Tryz.func159.trans (congrArg some (by kernel_rfl))⟩
  f27 := ⟨Tryz.f160.name, by decide, Tryz.func160.trans (congrArg some (by kernel_rfl))⟩
  f28 := Tryz.func133.trans (congrArg some (by kernel_rfl))
  f29 := Tryz.func134.trans (congrArg some (by kernel_rfl))
  f46 := ⟨Tryz.f162.name, by decide, Tryz.func162.trans (congrArg some (by kernel_rfl))⟩
  f47 := Tryz.func145.trans (congrArg some (by kernel_rfl))
  f48 := Tryz.func146.trans (congrArg some (by kernel_rfl))
  f49 := ⟨Tryz.f163.name, by decide, Tryz.func163.trans (congrArg some (by kernel_rfl))⟩
  f50 := ⟨Tryz.f164.name, by decide, Tryz.func164.trans (congrArg some (by kernel_rfl))⟩
  f57 := ⟨Tryz.f165.name, by decide, Tryz.func165.trans (congrArg some (by kernel_rfl))⟩
  t0 := Tryz.underlying0
  a0 := Tryz.isAgg0
  z0 := Tryz.sizeOf0
  v0 := Tryz.zeroValue0
  t3 := Tryz.underlying3
  a3 := Tryz.isAgg3
  z3 := Tryz.sizeOf3
  v3 := Tryz.zeroValue3
  t4 := Tryz.underlying4
  a4 := Tryz.isAgg4
  z4 := Tryz.sizeOf4
  v4 := Tryz.zeroValue4
  t5 := Tryz.underlying5
  a5 := Tryz.isAgg5
  z5 := Tryz.sizeOf5
  v5 := Tryz.zeroValue5
  t9 := Tryz.underlying9
  a9 := Tryz.isAgg9
  z9 := Tryz.sizeOf9
  v9 := Tryz.zeroValue9
  t22 := Tryz.underlying27
  a22 := Tryz.isAgg27
  z22 := Tryz.sizeOf27
  v22 := Tryz.zeroValue27
  t25 := Tryz.underlying207
  a25 := Tryz.isAgg207
  z25 := Tryz.sizeOf207
  v25 := Tryz.zeroValue207
  t39 := Tryz.underlying172
  a39 := Tryz.isAgg172
  z39 := Tryz.sizeOf172
  v39 := Tryz.zeroValue172
  t45 := Tryz.underlying193
  a45 := Tryz.isAgg193
  z45 := Tryz.sizeOf193
  v45 := Tryz.zeroValue193
  t46 := Tryz.underlying194
  a46 := Tryz.isAgg194
  z46 := Tryz.sizeOf194
  v46 := Tryz.zeroValue194
  t50 := Tryz.underlying100
  a50 := Tryz.isAgg100
  z50 := Tryz.sizeOf100
  v50 := Tryz.zeroValue100
  t53 := Tryz.underlying80
  a53 := Tryz.isAgg80
  z53 := Tryz.sizeOf80
  v53 := Tryz.zeroValue80
  t55 := Tryz.underlying202
  a55 := Tryz.isAgg202
  z55 := Tryz.sizeOf202
  v55 := Tryz.zeroValue202
  t66 := Tryz.underlying211
  a66 := Tryz.isAgg211
  z66 := Tryz.sizeOf211
  v66 := Tryz.zeroValue211
  t70 := Tryz.underlying215
  a70 := Tryz.isAgg215
  z70 := Tryz.sizeOf215
  v70 := Tryz.zeroValue215
  t76 := Tryz.underlying219
  a76 := Tryz.isAgg219
  z76 := Tryz.sizeOf219
  v76 := Tryz.zeroValue219
  t77 := Tryz.underlying33
  a77 := Tryz.isAgg33
  z77 := Tryz.sizeOf33
  v77 := Tryz.zeroValue33 }
def Tryz.sortI_ren : Go.Shelf.Ren := ⟨fun | 53 => 51 | 64 => 90 | 63 => 89 | 78 => 133 | 79 => 134 | 70 => 124 | 71 => 125 | 72 => 126 | 73 => 127 | 74 => 128 | 75 => 129 | 59 => 130 | 76 => 131 | 77 => 132 | 88 => 144 | 89 => 145 | 90 => 146 | 91 => 147 | 92 => 148 | 68 => 93 | 96 => 152 | n => n, fun | 22 => 35 | 23 => 3 | 3 => 3 | 51 => 172 | 0 => 0 | 67 => 80 | 69 => 202 | 4 => 4 | 61 => 194 | 60 => 193 | 44 => 100 | 5 => 5 | 9 => 9 | 75 => 211 | 79 => 215 | 83 => 219 | 84 => 33 | n => n, fun | n => n⟩
theorem Tryz.sortI : Go.Proofs.SlLaysN.n53 Tryz.prog Tryz.sortI_ren := {
  mixed := by kernel_rfl
  f53 := ⟨Tryz.f51.name, by decide, Tryz.func51.trans (congrArg some (by kernel_rfl))⟩
  f59 := ⟨Tryz.f130.name, by decide, Tryz.func130.trans (congrArg some (by kernel_rfl))⟩
  f63 := ⟨Tryz.f89.name, by decide, Tryz.func89.trans (congrArg some (by kernel_rfl))⟩
  f64 := Tryz.func90.trans (congrArg some (by kernel_rfl))
  f68 := ⟨Tryz.f93.name, by decide, Tryz.func93.trans (congrArg some (by kernel_rfl))⟩
  f70 := ⟨Tryz.f124.name, by decide, Tryz.func124.trans (congrArg some (by kernel_rfl))⟩
  f71 := ⟨Tryz.f125.name, by decide, Tryz.func125.trans (congrArg some (by kernel_rfl))⟩
  f72 := ⟨Tryz.f126.name, by decide, Tryz.func126.trans (congrArg some (by kernel_rfl))⟩
  f73 := ⟨Tryz.f127.name, by decide, Tryz.func127.trans (congrArg some (by kernel_rfl))⟩
  f74 := ⟨Tryz.f128.name, by decide, Tryz.func128.trans (congrArg some (by kernel_rfl))⟩
  f75 := ⟨Tryz.f129.name, by decide, Tryz.func129.trans (congrArg some (by kernel_rfl))⟩
  f76 := ⟨Tryz.f131.name, by decide, Tryz.func131.trans (congrArg some (by kernel_rfl))⟩
  f77 := ⟨Tryz.f132.name, by decide, Tryz.func132.trans (congrArg some (by kernel_rfl))⟩
  f78 := Tryz.func133.trans (congrArg some (by kernel_rfl))
  f79 := Tryz.func134.trans (congrArg some (by kernel_rfl))
  f88 := ⟨Tryz.f144.name, by decide, Tryz.func144.trans (congrArg some (by kernel_rfl))⟩
  f89 := Tryz.func145.trans (congrArg some (by kernel_rfl))
  f90 := Tryz.func146.trans (congrArg some (by kernel_rfl))
  f91 := ⟨Tryz.f147.name, by decide, Tryz.func147.trans (congrArg some (by kernel_rfl))⟩
  f92 := ⟨Tryz.f148.name, by decide, Tryz.func148.trans (congrArg some (by kernel_rfl))⟩
  f96 := ⟨Tryz.f152.name, by decide, Tryz.func152.trans (congrArg some (by kernel_rfl))⟩
  t0 := Tryz.underlying0
  a0 := Tryz.isAgg0
  z0 := Tryz.sizeOf0
  v0 := Tryz.zeroValue0
  t3 := Tryz.underlying3
  a3 := Tryz.isAgg3
  z3 := Tryz.sizeOf3
  v3 := Tryz.zeroValue3
  t4 := Tryz.underlying4
  a4 := Tryz.isAgg4
  z4 := Tryz.sizeOf4
  v4 := Tryz.zeroValue4
  t5 := Tryz.underlying5
  a5 := Tryz.isAgg5
  z5 := Tryz.sizeOf5
  v5 := Tryz.zeroValue5
  t9 := Tryz.underlying9
  a9 := Tryz.isAgg9
  z9 := Tryz.sizeOf9
  v9 := Tryz.zeroValue9
  t22 := Tryz.underlying35
  a22 := Tryz.isAgg35
  z22 := Tryz.sizeOf35
  v22 := Tryz.zeroValue35
  t23 := Tryz.underlying3
  a23 := Tryz.isAgg3
  z23 := Tryz.sizeOf3
  v23 := Tryz.zeroValue3
  t44 := Tryz.underlying100
  a44 := Tryz.isAgg100
  z44 := Tryz.sizeOf100
  v44 := Tryz.zeroValue100
  t51 := Tryz.underlying172
  a51 := Tryz.isAgg172
  z51 := Tryz.sizeOf172
  v51 := Tryz.zeroValue172
  t60 := Tryz.underlying193
  a60 := Tryz.isAgg193
  z60 := Tryz.sizeOf193
  v60 := Tryz.zeroValue193
  t61 := Tryz.underlying194
  a61 := Tryz.isAgg194
  z61 := Tryz.sizeOf194
  v61 := Tryz.zeroValue194
  t67 := Tryz.underlying80
  a67 := Tryz.isAgg80
  z67 := Tryz.sizeOf80
  v67 := Tryz.zeroValue80
  t69 := Tryz.underlying202
  a69 := Tryz.isAgg202
  z69 := Tryz.sizeOf202
  v69 := Tryz.zeroValue202
  t75 := Tryz.underlying211
  a75 := Tryz.isAgg211
  z75 := Tryz.sizeOf211
  v75 := Tryz.zeroValue211
  t79 := Tryz.underlying215
  a79 := Tryz.isAgg215
  z79 := Tryz.sizeOf215
  v79 := Tryz.zeroValue215
  t83 := Tryz.underlying219
  a83 := Tryz.isAgg219
  z83 := Tryz.sizeOf219
  v83 := Tryz.zeroValue219
  t84 := Tryz.underlying33
  a84 := Tryz.isAgg33
  z84 := Tryz.sizeOf33
  v84 := Tryz.zeroValue33 }
end Go.Proofs
namespace Go.Fw
open Go.Proofs
theorem sort138 {own : List OE} {G : GTab} {g : FuncId} {i : Nat} {xs ys cs : List AV} (cf : AV → AV → Int) (hi : own[i]? = some (.row 73 8 xs)) (hfl : ∀ x ∈ xs, x.flatN = true) (hlen : ∀ x ∈ xs, x.vals.length = 8) (hn : xs.length ≤ 65536) (hcs : AV.closedL (AV.subL (frz1 (own.set i .gone)) cs) = true) (hO : CmpOK cf xs)
    (hcmp : ∀ x ∈ xs, ∀ y ∈ xs, CallA Tryz.prog G g ([x, y] ++ AV.subL (frz1 (own.set i .gone)) cs) (.int .i64 (cf x y))) (hbg : BodyOK Tryz.prog g) (hp : ys.Perm xs) (hs : ys.Pairwise fun x y => ¬ cf y x < 0) :
    CallO Tryz.prog G 138 [.osl i, .fn (.func g) [] cs] own (.tup []) (own.set i (.row 73 8 ys)) :=
  sortFunc_ok Tryz.sortF (by omega) Tryz.isAgg73 Tryz.sizeOf73 rfl ⟨_, Tryz.func138, rfl, by simp [Tryz.f138]⟩ cf hi hfl hlen hn hcs hO hcmp hbg hp hs
theorem sort51 {own : List OE} {G : GTab} {i : Nat} {zs ys : List Int} (hi : own[i]? = some (.row 3 1 (zs.map ia))) (hn : zs.length ≤ 65536) (hp : ys.Perm zs) (hs : ys.Pairwise (· ≤ ·)) :
    CallO Tryz.prog G 51 [.osl i] own (.tup []) (own.set i (.row 3 1 (ys.map ia))) :=
  sortInts_ok Tryz.sortI rfl ⟨_, Tryz.func51, rfl, by simp [Tryz.f51]⟩ hi hn hp hs
end Go.Fw

set_option maxRecDepth 20000
namespace Go.Fw
open Go.Proofs

theorem wrap_u8 (k : U8) : IntKind.i64.wrap (U8.i k) = U8.i k := wrap_i64 (by have := U8.nn k; omega) (by have := U8.lt k; omega)
def within (n lo hi : Int) : Bool := decide (n ≥ lo) && decide (n ≤ hi)
def cmpI (a b : Int) : Int := if a < b then -1 else if a > b then 1 else 0
theorem within_ok46 (n lo hi : Int) : CallA Tryz.prog GT 46 [.int .i64 n, .int .i64 lo, .int .i64 hi] (.bool (within n lo hi)) := by
  refine callA_of Tryz.func46 rfl (by simp [Tryz.f46]) rfl fun B ac hB hBd hG hS => ?_
  refine runs_seq ?_
  refine reg [] [0, 1, 2] hG hS (env := [(0, .int .i64 n), (1, .int .i64 lo), (2, .int .i64 hi)]) (own := []) (obs := []) (by kernel_rfl) (trivial) fun ac wd hS => ?_
  refine runs_seq ?_
  rcases Bool.eq_false_or_eq_true (decide (n ≥ lo)) with hb1 | hb1
  · skip
    refine reg [(3, .dec true)] [6] hG hS (env := [(6, .bool (decide (n ≤ hi)))]) (own := []) (obs := [decide (n ≥ lo) = true]) (by kernel_rfl) (hb1) fun ac wd hS => ?_
    rw [show (.bool (within n lo hi) : AV) = .bool (decide (n ≤ hi)) from by ((try simp only [decide_eq_true_eq, decide_eq_false_iff_not, beq_iff_eq, beq_eq_false_iff_ne] at hb1); first | (simp [within, hb1]; done) | (simp [within, hb1]; omega) | (congr 1; simp only [within]; grind))]
    exact retz Tryz.func46 rfl hB hBd hS (by kernel_rfl) rfl
  · skip
    refine reg [(3, .dec false)] [6] hG hS (env := [(6, .bool false)]) (own := []) (obs := [decide (n ≥ lo) = false]) (by kernel_rfl) (hb1) fun ac wd hS => ?_
    rw [show (.bool (within n lo hi) : AV) = .bool false from by ((try simp only [decide_eq_true_eq, decide_eq_false_iff_not, beq_iff_eq, beq_eq_false_iff_ne] at hb1); first | (simp [within, hb1]; done) | (simp [within, hb1]; omega) | (congr 1; simp only [within]; grind))]
    exact retz Tryz.func46 rfl hB hBd hS (by kernel_rfl) rfl
theorem within_ok84 (n lo hi : Int) : CallA Tryz.prog GT 84 [.int .i64 n, .int .i64 lo, .int .i64 hi] (.bool (within n lo hi)) := by
  refine callA_of Tryz.func84 rfl (by simp [Tryz.f84]) rfl fun B ac hB hBd hG hS => ?_
  refine runs_seq ?_
  refine reg [] [0, 1, 2] hG hS (env := [(0, .int .i64 n), (1, .int .i64 lo), (2, .int .i64 hi)]) (own := []) (obs := []) (by kernel_rfl) (trivial) fun ac wd hS => ?_
  refine runs_seq ?_
  rcases Bool.eq_false_or_eq_true (decide (n ≥ lo)) with hb1 | hb1
  · skip
    refine reg [(3, .dec true)] [6] hG hS (env := [(6, .bool (decide (n ≤ hi)))]) (own := []) (obs := [decide (n ≥ lo) = true]) (by kernel_rfl) (hb1) fun ac wd hS => ?_
    rw [show (.bool (within n lo hi) : AV) = .bool (decide (n ≤ hi)) from by ((try simp only [decide_eq_true_eq, decide_eq_false_iff_not, beq_iff_eq, beq_eq_false_iff_ne] at hb1); first | (simp [within, hb1]; done) | (simp [within, hb1]; omega) | (congr 1; simp only [within]; grind))]
    exact retz Tryz.func84 rfl hB hBd hS (by kernel_rfl) rfl
  · skip
    refine reg [(3, .dec false)] [6] hG hS (env := [(6, .bool false)]) (own := []) (obs := [decide (n ≥ lo) = false]) (by kernel_rfl) (hb1) fun ac wd hS => ?_
    rw [show (.bool (within n lo hi) : AV) = .bool false from by ((try simp only [decide_eq_true_eq, decide_eq_false_iff_not, beq_iff_eq, beq_eq_false_iff_ne] at hb1); first | (simp [within, hb1]; done) | (simp [within, hb1]; omega) | (congr 1; simp only [within]; grind))]
    exact retz Tryz.func84 rfl hB hBd hS (by kernel_rfl) rfl
theorem isNaN_ok93 (n : Int) : CallA Tryz.prog GT 93 [.int .i64 n] (.bool false) := by
  refine callA_of Tryz.func93 rfl (by simp [Tryz.f93]) rfl fun B ac hB hBd hG hS => ?_
  refine runs_seq ?_
  refine reg [] [0] hG hS (env := [(0, .int .i64 n)]) (own := []) (obs := []) (by kernel_rfl) (trivial) fun ac wd hS => ?_
  refine runs_seq ?_
  refine reg [] [2] hG hS (env := [(2, .bool (n != n))]) (own := []) (obs := []) (by kernel_rfl) (trivial) fun ac wd hS => ?_
  rw [show (.bool false : AV) = .bool (n != n) from by (first | (simp []; done) | (simp []; omega) | (congr 1; simp only []; grind))]
  exact retz Tryz.func93 rfl hB hBd hS (by kernel_rfl) rfl
theorem isNaN_ok94 (n : Int) : CallA Tryz.prog GT 94 [.int .u8 n] (.bool false) := by
  refine callA_of Tryz.func94 rfl (by simp [Tryz.f94]) rfl fun B ac hB hBd hG hS => ?_
  refine runs_seq ?_
  refine reg [] [0] hG hS (env := [(0, .int .u8 n)]) (own := []) (obs := []) (by kernel_rfl) (trivial) fun ac wd hS => ?_
  refine runs_seq ?_
  refine reg [] [2] hG hS (env := [(2, .bool (n != n))]) (own := []) (obs := []) (by kernel_rfl) (trivial) fun ac wd hS => ?_
  rw [show (.bool false : AV) = .bool (n != n) from by (first | (simp []; done) | (simp []; omega) | (congr 1; simp only []; grind))]
  exact retz Tryz.func94 rfl hB hBd hS (by kernel_rfl) rfl
theorem cmp_ok60 (a b : Int) : CallA Tryz.prog GT 60 [.int .i64 a, .int .i64 b] (.int .i64 (cmpI a b)) := by
  refine callA_of Tryz.func60 rfl (by simp [Tryz.f60]) rfl fun B ac hB hBd hG hS => ?_
  refine runs_seq ?_
  refine reg [] [0, 1] hG hS (env := [(0, .int .i64 a), (1, .int .i64 b)]) (own := []) (obs := []) (by kernel_rfl) (trivial) fun ac wd hS => ?_
  refine runs_seq ?_
  refine reg [(1, .av (.bool false))] [0, 1, 5] hG hS (env := [(0, .int .i64 a), (1, .int .i64 b), (5, .bool false)]) (own := []) (obs := [CallA Tryz.prog GT 93 [.int .i64 a] (.bool false)]) (by kernel_rfl) ((isNaN_ok93 _)) fun ac wd hS => ?_
  refine runs_seq ?_
  refine reg [(1, .av (.bool false))] [0, 1, 5, 6] hG hS (env := [(0, .int .i64 a), (1, .int .i64 b), (5, .bool false), (6, .bool false)]) (own := []) (obs := [CallA Tryz.prog GT 93 [.int .i64 b] (.bool false)]) (by kernel_rfl) ((isNaN_ok93 _)) fun ac wd hS => ?_
  refine runs_seq ?_
  refine runs_seq ?_
  refine reg [] [0, 1, 6, 11] hG hS (env := [(0, .int .i64 a), (1, .int .i64 b), (6, .bool false), (11, .bool false)]) (own := []) (obs := []) (by kernel_rfl) (trivial) fun ac wd hS => ?_
  refine cond_no hS (c := false) (by kernel_rfl) rfl ?_
  refine runs_skip ?_
  refine runs_seq ?_
  refine runs_seq ?_
  refine reg [] [0, 1, 13] hG hS (env := [(0, .int .i64 a), (1, .int .i64 b), (13, .bool false)]) (own := []) (obs := []) (by kernel_rfl) (trivial) fun ac wd hS => ?_
  refine cond_no hS (c := false) (by kernel_rfl) rfl ?_
  refine runs_skip ?_
  refine runs_seq ?_
  refine runs_seq ?_
  rcases Bool.eq_false_or_eq_true (decide (a < b)) with hb1 | hb1
  · skip
    refine reg [(2, .dec true)] [0, 1, 16] hG hS (env := [(0, .int .i64 a), (1, .int .i64 b), (16, .bool true)]) (own := []) (obs := [decide (a < b) = true]) (by kernel_rfl) (hb1) fun ac wd hS => ?_
    refine cond_yes hS (c := true) (by kernel_rfl) rfl ?_
    refine runs_seq ?_
    refine reg [] [4] hG hS (env := [(4, .int .i64 (-1))]) (own := []) (obs := []) (by kernel_rfl) (trivial) fun ac wd hS => ?_
    rw [show (.int .i64 (cmpI a b) : AV) = .int .i64 (-1) from by ((try simp only [decide_eq_true_eq, decide_eq_false_iff_not, beq_iff_eq, beq_eq_false_iff_ne] at hb1); first | (simp [cmpI, hb1]; done) | (simp [cmpI, hb1]; omega) | (congr 1; simp only [cmpI]; grind))]
    exact retz Tryz.func60 rfl hB hBd hS (by kernel_rfl) rfl
  · skip
    refine reg [(2, .dec false)] [0, 1, 16] hG hS (env := [(0, .int .i64 a), (1, .int .i64 b), (16, .bool false)]) (own := []) (obs := [decide (a < b) = false]) (by kernel_rfl) (hb1) fun ac wd hS => ?_
    refine cond_no hS (c := false) (by kernel_rfl) rfl ?_
    refine runs_skip ?_
    refine runs_seq ?_
    refine runs_seq ?_
    rcases Bool.eq_false_or_eq_true (decide (a > b)) with hb2 | hb2
    · skip
      refine reg [(2, .dec true)] [19] hG hS (env := [(19, .bool true)]) (own := []) (obs := [decide (a > b) = true]) (by kernel_rfl) (hb2) fun ac wd hS => ?_
      refine cond_yes hS (c := true) (by kernel_rfl) rfl ?_
      refine runs_seq ?_
      refine reg [] [4] hG hS (env := [(4, .int .i64 1)]) (own := []) (obs := []) (by kernel_rfl) (trivial) fun ac wd hS => ?_
      rw [show (.int .i64 (cmpI a b) : AV) = .int .i64 1 from by ((try simp only [decide_eq_true_eq, decide_eq_false_iff_not, beq_iff_eq, beq_eq_false_iff_ne] at hb1); (try simp only [decide_eq_true_eq, decide_eq_false_iff_not, beq_iff_eq, beq_eq_false_iff_ne] at hb2); first | (simp [cmpI, hb1, hb2]; done) | (simp [cmpI, hb1, hb2]; omega) | (congr 1; simp only [cmpI]; grind))]
      exact retz Tryz.func60 rfl hB hBd hS (by kernel_rfl) rfl
    · skip
      refine reg [(2, .dec false)] [19] hG hS (env := [(19, .bool false)]) (own := []) (obs := [decide (a > b) = false]) (by kernel_rfl) (hb2) fun ac wd hS => ?_
      refine cond_no hS (c := false) (by kernel_rfl) rfl ?_
      refine runs_skip ?_
      refine runs_seq ?_
      refine reg [] [4] hG hS (env := [(4, .int .i64 0)]) (own := []) (obs := []) (by kernel_rfl) (trivial) fun ac wd hS => ?_
      rw [show (.int .i64 (cmpI a b) : AV) = .int .i64 0 from by ((try simp only [decide_eq_true_eq, decide_eq_false_iff_not, beq_iff_eq, beq_eq_false_iff_ne] at hb1); (try simp only [decide_eq_true_eq, decide_eq_false_iff_not, beq_iff_eq, beq_eq_false_iff_ne] at hb2); first | (simp [cmpI, hb1, hb2]; done) | (simp [cmpI, hb1, hb2]; omega) | (congr 1; simp only [cmpI]; grind))]
      exact retz Tryz.func60 rfl hB hBd hS (by kernel_rfl) rfl
theorem cmp_ok61 (a b : Int) : CallA Tryz.prog GT 61 [.int .u8 a, .int .u8 b] (.int .i64 (cmpI a b)) := by
  refine callA_of Tryz.func61 rfl (by simp [Tryz.f61]) rfl fun B ac hB hBd hG hS => ?_
  refine runs_seq ?_
  refine reg [] [0, 1] hG hS (env := [(0, .int .u8 a), (1, .int .u8 b)]) (own := []) (obs := []) (by kernel_rfl) (trivial) fun ac wd hS => ?_
  refine runs_seq ?_
  refine reg [(1, .av (.bool false))] [0, 1, 5] hG hS (env := [(0, .int .u8 a), (1, .int .u8 b), (5, .bool false)]) (own := []) (obs := [CallA Tryz.prog GT 94 [.int .u8 a] (.bool false)]) (by kernel_rfl) ((isNaN_ok94 _)) fun ac wd hS => ?_
  refine runs_seq ?_
  refine reg [(1, .av (.bool false))] [0, 1, 5, 6] hG hS (env := [(0, .int .u8 a), (1, .int .u8 b), (5, .bool false), (6, .bool false)]) (own := []) (obs := [CallA Tryz.prog GT 94 [.int .u8 b] (.bool false)]) (by kernel_rfl) ((isNaN_ok94 _)) fun ac wd hS => ?_
  refine runs_seq ?_
  refine runs_seq ?_
  refine reg [] [0, 1, 6, 11] hG hS (env := [(0, .int .u8 a), (1, .int .u8 b), (6, .bool false), (11, .bool false)]) (own := []) (obs := []) (by kernel_rfl) (trivial) fun ac wd hS => ?_
  refine cond_no hS (c := false) (by kernel_rfl) rfl ?_
  refine runs_skip ?_
  refine runs_seq ?_
  refine runs_seq ?_
  refine reg [] [0, 1, 13] hG hS (env := [(0, .int .u8 a), (1, .int .u8 b), (13, .bool false)]) (own := []) (obs := []) (by kernel_rfl) (trivial) fun ac wd hS => ?_
  refine cond_no hS (c := false) (by kernel_rfl) rfl ?_
  refine runs_skip ?_
  refine runs_seq ?_
  refine runs_seq ?_
  rcases Bool.eq_false_or_eq_true (decide (a < b)) with hb1 | hb1
  · skip
    refine reg [(2, .dec true)] [0, 1, 16] hG hS (env := [(0, .int .u8 a), (1, .int .u8 b), (16, .bool true)]) (own := []) (obs := [decide (a < b) = true]) (by kernel_rfl) (hb1) fun ac wd hS => ?_
    refine cond_yes hS (c := true) (by kernel_rfl) rfl ?_
    refine runs_seq ?_
    refine reg [] [4] hG hS (env := [(4, .int .i64 (-1))]) (own := []) (obs := []) (by kernel_rfl) (trivial) fun ac wd hS => ?_
    rw [show (.int .i64 (cmpI a b) : AV) = .int .i64 (-1) from by ((try simp only [decide_eq_true_eq, decide_eq_false_iff_not, beq_iff_eq, beq_eq_false_iff_ne] at hb1); first | (simp [cmpI, hb1]; done) | (simp [cmpI, hb1]; omega) | (congr 1; simp only [cmpI]; grind))]
    exact retz Tryz.func61 rfl hB hBd hS (by kernel_rfl) rfl
  · skip
    refine reg [(2, .dec false)] [0, 1, 16] hG hS (env := [(0, .int .u8 a), (1, .int .u8 b), (16, .bool false)]) (own := []) (obs := [decide (a < b) = false]) (by kernel_rfl) (hb1) fun ac wd hS => ?_
    refine cond_no hS (c := false) (by kernel_rfl) rfl ?_
    refine runs_skip ?_
    refine runs_seq ?_
    refine runs_seq ?_
    rcases Bool.eq_false_or_eq_true (decide (a > b)) with hb2 | hb2
    · skip
      refine reg [(2, .dec true)] [19] hG hS (env := [(19, .bool true)]) (own := []) (obs := [decide (a > b) = true]) (by kernel_rfl) (hb2) fun ac wd hS => ?_
      refine cond_yes hS (c := true) (by kernel_rfl) rfl ?_
      refine runs_seq ?_
      refine reg [] [4] hG hS (env := [(4, .int .i64 1)]) (own := []) (obs := []) (by kernel_rfl) (trivial) fun ac wd hS => ?_
      rw [show (.int .i64 (cmpI a b) : AV) = .int .i64 1 from by ((try simp only [decide_eq_true_eq, decide_eq_false_iff_not, beq_iff_eq, beq_eq_false_iff_ne] at hb1); (try simp only [decide_eq_true_eq, decide_eq_false_iff_not, beq_iff_eq, beq_eq_false_iff_ne] at hb2); first | (simp [cmpI, hb1, hb2]; done) | (simp [cmpI, hb1, hb2]; omega) | (congr 1; simp only [cmpI]; grind))]
      exact retz Tryz.func61 rfl hB hBd hS (by kernel_rfl) rfl
    · skip
      refine reg [(2, .dec false)] [19] hG hS (env := [(19, .bool false)]) (own := []) (obs := [decide (a > b) = false]) (by kernel_rfl) (hb2) fun ac wd hS => ?_
      refine cond_no hS (c := false) (by kernel_rfl) rfl ?_
      refine runs_skip ?_
      refine runs_seq ?_
      refine reg [] [4] hG hS (env := [(4, .int .i64 0)]) (own := []) (obs := []) (by kernel_rfl) (trivial) fun ac wd hS => ?_
      rw [show (.int .i64 (cmpI a b) : AV) = .int .i64 0 from by ((try simp only [decide_eq_true_eq, decide_eq_false_iff_not, beq_iff_eq, beq_eq_false_iff_ne] at hb1); (try simp only [decide_eq_true_eq, decide_eq_false_iff_not, beq_iff_eq, beq_eq_false_iff_ne] at hb2); first | (simp [cmpI, hb1, hb2]; done) | (simp [cmpI, hb1, hb2]; omega) | (congr 1; simp only [cmpI]; grind))]
      exact retz Tryz.func61 rfl hB hBd hS (by kernel_rfl) rfl
theorem inF_ok92 (n lo hi : Int) : CallA Tryz.prog GT 92 [.int .i64 n, .fp [.int .i64 lo] 0, .fp [.int .i64 hi] 0] (.bool (!within n lo hi)) := by
  refine callA_of Tryz.func92 rfl (by simp [Tryz.f92]) rfl fun B ac hB hBd hG hS => ?_
  refine runs_seq ?_
  refine reg [] [0, 1, 2] hG hS (env := [(0, .int .i64 n), (1, .fp [.int .i64 lo] 0), (2, .fp [.int .i64 hi] 0)]) (own := []) (obs := []) (by kernel_rfl) (trivial) fun ac wd hS => ?_
  refine runs_seq ?_
  rcases Bool.eq_false_or_eq_true (decide (n < lo)) with hb1 | hb1
  · skip
    refine reg [(3, .dec true)] [4] hG hS (env := [(4, .bool true)]) (own := []) (obs := [decide (n < lo) = true]) (by kernel_rfl) (hb1) fun ac wd hS => ?_
    rw [show (.bool (!within n lo hi) : AV) = .bool true from by ((try simp only [decide_eq_true_eq, decide_eq_false_iff_not, beq_iff_eq, beq_eq_false_iff_ne] at hb1); first | (simp [within, hb1]; done) | (simp [within, hb1]; omega) | (congr 1; simp only [within]; grind))]
    exact retz Tryz.func92 rfl hB hBd hS (by kernel_rfl) rfl
  · skip
    refine reg [(3, .dec false)] [4] hG hS (env := [(4, .bool (decide (n > hi)))]) (own := []) (obs := [decide (n < lo) = false]) (by kernel_rfl) (hb1) fun ac wd hS => ?_
    rw [show (.bool (!within n lo hi) : AV) = .bool (decide (n > hi)) from by ((try simp only [decide_eq_true_eq, decide_eq_false_iff_not, beq_iff_eq, beq_eq_false_iff_ne] at hb1); first | (simp [within, hb1]; done) | (simp [within, hb1]; omega) | (congr 1; simp only [within]; grind))]
    exact retz Tryz.func92 rfl hB hBd hS (by kernel_rfl) rfl
theorem inF_ok103 (n lo hi : Int) : CallA Tryz.prog GT 103 [.int .i64 n, .fp [.int .i64 lo] 0, .fp [.int .i64 hi] 0] (.bool (!within n lo hi)) := by
  refine callA_of Tryz.func103 rfl (by simp [Tryz.f103]) rfl fun B ac hB hBd hG hS => ?_
  refine runs_seq ?_
  refine reg [] [0, 1, 2] hG hS (env := [(0, .int .i64 n), (1, .fp [.int .i64 lo] 0), (2, .fp [.int .i64 hi] 0)]) (own := []) (obs := []) (by kernel_rfl) (trivial) fun ac wd hS => ?_
  refine runs_seq ?_
  rcases Bool.eq_false_or_eq_true (decide (n < lo)) with hb1 | hb1
  · skip
    refine reg [(3, .dec true)] [4] hG hS (env := [(4, .bool true)]) (own := []) (obs := [decide (n < lo) = true]) (by kernel_rfl) (hb1) fun ac wd hS => ?_
    rw [show (.bool (!within n lo hi) : AV) = .bool true from by ((try simp only [decide_eq_true_eq, decide_eq_false_iff_not, beq_iff_eq, beq_eq_false_iff_ne] at hb1); first | (simp [within, hb1]; done) | (simp [within, hb1]; omega) | (congr 1; simp only [within]; grind))]
    exact retz Tryz.func103 rfl hB hBd hS (by kernel_rfl) rfl
  · skip
    refine reg [(3, .dec false)] [4] hG hS (env := [(4, .bool (decide (n > hi)))]) (own := []) (obs := [decide (n < lo) = false]) (by kernel_rfl) (hb1) fun ac wd hS => ?_
    rw [show (.bool (!within n lo hi) : AV) = .bool (decide (n > hi)) from by ((try simp only [decide_eq_true_eq, decide_eq_false_iff_not, beq_iff_eq, beq_eq_false_iff_ne] at hb1); first | (simp [within, hb1]; done) | (simp [within, hb1]; omega) | (congr 1; simp only [within]; grind))]
    exact retz Tryz.func103 rfl hB hBd hS (by kernel_rfl) rfl
def findI {α : Type} (p : α → Bool) : List α → Int → Int
  | [], _ => -1
  | x :: l, i => if p x then i else findI p l (i + 1)
theorem index_inT (l : List Int) (lo hi : Int) (hn : l.length ≤ 65536) : CallA Tryz.prog GT 135 [.sl (l.map ia), .fn (.func 92) [] [.fp [.int .i64 lo] 0, .fp [.int .i64 hi] 0]] (.int .i64 (findI (fun x => !within x lo hi) l 0)) := by
  refine callA_of Tryz.func135 rfl (by simp [Tryz.f135]) rfl fun B ac hB hBd hG hS => ?_
  refine runs_seq ?_
  refine reg [] [0, 1] hG hS (env := [(0, .sl (l.map ia)), (1, .fn (.func 92) [] [.fp [.int .i64 lo] 0, .fp [.int .i64 hi] 0])]) (own := []) (obs := []) (by kernel_rfl) (trivial) fun ac wd hS => ?_
  refine runs_seq ?_
  refine runs_seq ?_
  refine reg [(1, .is ((l.length : Nat) : Int))] [0, 1, 7, 8] hG hS (env := [(0, .sl (l.map ia)), (1, .fn (.func 92) [] [.fp [.int .i64 lo] 0, .fp [.int .i64 hi] 0]), (7, .int .i64 ((l.length : Nat) : Int)), (8, .int .i64 0)]) (own := []) (obs := [((l.map ia).length : Int) = ((l.length : Nat) : Int)]) (by kernel_rfl) (len_map) fun ac wd hS => ?_
  refine runs_block ?_
  refine runs_loop ?_
  have hinv : ∃ (pre rest : List Int), l = pre ++ rest ∧ (findI (fun x => !within x lo hi) l 0 = findI (fun x => !within x lo hi) rest ((pre.length : Nat) : Int)) ∧ Sat B ⟨Tryz.f135.ntmps, [(0, .sl (l.map ia)), (1, .fn (.func 92) [] [.fp [.int .i64 lo] 0, .fp [.int .i64 hi] 0]), (7, .int .i64 ((l.length : Nat) : Int)), (8, .int .i64 ((pre.length : Nat) : Int))], []⟩ ac wd := ⟨[], l, rfl, rfl, hS.sel [] [0, 1, 7, 8] (by kernel_rfl)⟩
  clear hS
  obtain ⟨pre, rest, hl, hr, hS⟩ := hinv
  induction rest generalizing pre  ac wd with
  | nil =>
    refine runs_seq ?_
    refine reg [(0, .dec false)] [0, 1, 7, 8, 9] hG hS (env := [(0, .sl (l.map ia)), (1, .fn (.func 92) [] [.fp [.int .i64 lo] 0, .fp [.int .i64 hi] 0]), (7, .int .i64 ((l.length : Nat) : Int)), (8, .int .i64 ((pre.length : Nat) : Int)), (9, .bool false)]) (own := []) (obs := [decide (((pre.length : Nat) : Int) < ((l.length : Nat) : Int)) = false]) (by kernel_rfl) ((lt_no hl)) fun ac wd hS => ?_
    refine runs_seq ?_
    refine cond_no hS (c := false) (by kernel_rfl) rfl ?_
    refine runs_exit (by rfl) ?_
    refine runs_seq ?_
    refine reg [] [4] hG hS (env := [(4, .int .i64 (-1))]) (own := []) (obs := []) (by kernel_rfl) (trivial) fun ac wd hS => ?_
    rw [hr]; rw [show (AV.int .i64 (findI (fun x => !within x lo hi) [] ((pre.length : Nat) : Int))) = .int .i64 (-1) from by simp [findI]]
    exact retz Tryz.func135 rfl hB hBd hS (by kernel_rfl) rfl
  | cons x rest ihx =>
    refine runs_seq ?_
    refine reg [(0, .dec true)] [0, 1, 7, 8, 9] hG hS (env := [(0, .sl (l.map ia)), (1, .fn (.func 92) [] [.fp [.int .i64 lo] 0, .fp [.int .i64 hi] 0]), (7, .int .i64 ((l.length : Nat) : Int)), (8, .int .i64 ((pre.length : Nat) : Int)), (9, .bool true)]) (own := []) (obs := [decide (((pre.length : Nat) : Int) < ((l.length : Nat) : Int)) = true]) (by kernel_rfl) ((lt_yes hl)) fun ac wd hS => ?_
    refine runs_seq ?_
    refine cond_yes hS (c := true) (by kernel_rfl) rfl ?_
    refine runs_skip ?_
    refine runs_seq ?_
    refine runs_block ?_
    refine runs_seq ?_
    refine reg [] [0, 1, 7, 8, 5] hG hS (env := [(0, .sl (l.map ia)), (1, .fn (.func 92) [] [.fp [.int .i64 lo] 0, .fp [.int .i64 hi] 0]), (7, .int .i64 ((l.length : Nat) : Int)), (8, .int .i64 ((pre.length : Nat) : Int)), (5, .int .i64 ((pre.length : Nat) : Int))]) (own := []) (obs := []) (by kernel_rfl) (trivial) fun ac wd hS => ?_
    refine runs_seq ?_
    rcases Bool.eq_false_or_eq_true (!within x lo hi) with hb1 | hb1
    · skip
      refine reg [(3, .av (.int .i64 x)), (5, .av (.bool (!within x lo hi)))] [0, 1, 7, 8, 5, 16] hG hS (env := [(0, .sl (l.map ia)), (1, .fn (.func 92) [] [.fp [.int .i64 lo] 0, .fp [.int .i64 hi] 0]), (7, .int .i64 ((l.length : Nat) : Int)), (8, .int .i64 ((pre.length : Nat) : Int)), (5, .int .i64 ((pre.length : Nat) : Int)), (16, .bool (!within x lo hi))]) (own := []) (obs := [0 ≤ (((pre.length : Nat) : Int) : Int) ∧ (l.map ia : List AV)[(((pre.length : Nat) : Int) : Int).toNat]? = some (.int .i64 x), CallA Tryz.prog GT 92 [.int .i64 x, .fp [.int .i64 lo] 0, .fp [.int .i64 hi] 0] (.bool (!within x lo hi))]) (by kernel_rfl) (⟨(idx_ok hl), (inF_ok92 x lo hi)⟩) fun ac wd hS => ?_
      refine cond_yes hS (c := !within x lo hi) (by kernel_rfl) (hb1) ?_
      refine runs_seq ?_
      refine reg [] [4] hG hS (env := [(4, .int .i64 ((pre.length : Nat) : Int))]) (own := []) (obs := []) (by kernel_rfl) (trivial) fun ac wd hS => ?_
      rw [hr]; rw [show (AV.int .i64 (findI (fun x => !within x lo hi) (x :: rest) ((pre.length : Nat) : Int))) = .int .i64 ((pre.length : Nat) : Int) from by simp [findI, hb1]]
      exact retz Tryz.func135 rfl hB hBd hS (by kernel_rfl) rfl
    · skip
      refine reg [(3, .av (.int .i64 x)), (5, .av (.bool (!within x lo hi)))] [0, 1, 7, 8, 5, 16] hG hS (env := [(0, .sl (l.map ia)), (1, .fn (.func 92) [] [.fp [.int .i64 lo] 0, .fp [.int .i64 hi] 0]), (7, .int .i64 ((l.length : Nat) : Int)), (8, .int .i64 ((pre.length : Nat) : Int)), (5, .int .i64 ((pre.length : Nat) : Int)), (16, .bool (!within x lo hi))]) (own := []) (obs := [0 ≤ (((pre.length : Nat) : Int) : Int) ∧ (l.map ia : List AV)[(((pre.length : Nat) : Int) : Int).toNat]? = some (.int .i64 x), CallA Tryz.prog GT 92 [.int .i64 x, .fp [.int .i64 lo] 0, .fp [.int .i64 hi] 0] (.bool (!within x lo hi))]) (by kernel_rfl) (⟨(idx_ok hl), (inF_ok92 x lo hi)⟩) fun ac wd hS => ?_
      refine cond_no hS (c := !within x lo hi) (by kernel_rfl) (hb1) ?_
      refine runs_skip ?_
      refine runs_inBlock ?_
      refine reg [(0, .is (((pre ++ [x]).length : Nat) : Int))] [0, 1, 7, 8] hG hS (env := [(0, .sl (l.map ia)), (1, .fn (.func 92) [] [.fp [.int .i64 lo] 0, .fp [.int .i64 hi] 0]), (7, .int .i64 ((l.length : Nat) : Int)), (8, .int .i64 (((pre ++ [x]).length : Nat) : Int))]) (own := []) (obs := [IntKind.i64.wrap (((pre.length : Nat) : Int) + 1) = (((pre ++ [x]).length : Nat) : Int)]) (by kernel_rfl) ((next_len hl hn)) fun ac wd hS => ?_
      refine runs_inLoop ?_
      exact ihx _ _ (pre ++ [x])  (next_eq hl) (by rw [hr]; simp [findI, hb1]) (hS.sel [] [0, 1, 7, 8] (by kernel_rfl))
theorem index_inA (l : List Int) (lo hi : Int) (hn : l.length ≤ 65536) : CallA Tryz.prog GT 135 [.sl (l.map ia), .fn (.func 103) [] [.fp [.int .i64 lo] 0, .fp [.int .i64 hi] 0]] (.int .i64 (findI (fun x => !within x lo hi) l 0)) := by
  refine callA_of Tryz.func135 rfl (by simp [Tryz.f135]) rfl fun B ac hB hBd hG hS => ?_
  refine runs_seq ?_
  refine reg [] [0, 1] hG hS (env := [(0, .sl (l.map ia)), (1, .fn (.func 103) [] [.fp [.int .i64 lo] 0, .fp [.int .i64 hi] 0])]) (own := []) (obs := []) (by kernel_rfl) (trivial) fun ac wd hS => ?_
  refine runs_seq ?_
  refine runs_seq ?_
  refine reg [(1, .is ((l.length : Nat) : Int))] [0, 1, 7, 8] hG hS (env := [(0, .sl (l.map ia)), (1, .fn (.func 103) [] [.fp [.int .i64 lo] 0, .fp [.int .i64 hi] 0]), (7, .int .i64 ((l.length : Nat) : Int)), (8, .int .i64 0)]) (own := []) (obs := [((l.map ia).length : Int) = ((l.length : Nat) : Int)]) (by kernel_rfl) (len_map) fun ac wd hS => ?_
  refine runs_block ?_
  refine runs_loop ?_
  have hinv : ∃ (pre rest : List Int), l = pre ++ rest ∧ (findI (fun x => !within x lo hi) l 0 = findI (fun x => !within x lo hi) rest ((pre.length : Nat) : Int)) ∧ Sat B ⟨Tryz.f135.ntmps, [(0, .sl (l.map ia)), (1, .fn (.func 103) [] [.fp [.int .i64 lo] 0, .fp [.int .i64 hi] 0]), (7, .int .i64 ((l.length : Nat) : Int)), (8, .int .i64 ((pre.length : Nat) : Int))], []⟩ ac wd := ⟨[], l, rfl, rfl, hS.sel [] [0, 1, 7, 8] (by kernel_rfl)⟩
  clear hS
  obtain ⟨pre, rest, hl, hr, hS⟩ := hinv
  induction rest generalizing pre  ac wd with
  | nil =>
    refine runs_seq ?_
    refine reg [(0, .dec false)] [0, 1, 7, 8, 9] hG hS (env := [(0, .sl (l.map ia)), (1, .fn (.func 103) [] [.fp [.int .i64 lo] 0, .fp [.int .i64 hi] 0]), (7, .int .i64 ((l.length : Nat) : Int)), (8, .int .i64 ((pre.length : Nat) : Int)), (9, .bool false)]) (own := []) (obs := [decide (((pre.length : Nat) : Int) < ((l.length : Nat) : Int)) = false]) (by kernel_rfl) ((lt_no hl)) fun ac wd hS => ?_
    refine runs_seq ?_
    refine cond_no hS (c := false) (by kernel_rfl) rfl ?_
    refine runs_exit (by rfl) ?_
    refine runs_seq ?_
    refine reg [] [4] hG hS (env := [(4, .int .i64 (-1))]) (own := []) (obs := []) (by kernel_rfl) (trivial) fun ac wd hS => ?_
    rw [hr]; rw [show (AV.int .i64 (findI (fun x => !within x lo hi) [] ((pre.length : Nat) : Int))) = .int .i64 (-1) from by simp [findI]]
    exact retz Tryz.func135 rfl hB hBd hS (by kernel_rfl) rfl
  | cons x rest ihx =>
    refine runs_seq ?_
    refine reg [(0, .dec true)] [0, 1, 7, 8, 9] hG hS (env := [(0, .sl (l.map ia)), (1, .fn (.func 103) [] [.fp [.int .i64 lo] 0, .fp [.int .i64 hi] 0]), (7, .int .i64 ((l.length : Nat) : Int)), (8, .int .i64 ((pre.length : Nat) : Int)), (9, .bool true)]) (own := []) (obs := [decide (((pre.length : Nat) : Int) < ((l.length : Nat) : Int)) = true]) (by kernel_rfl) ((lt_yes hl)) fun ac wd hS => ?_
    refine runs_seq ?_
    refine cond_yes hS (c := true) (by kernel_rfl) rfl ?_
    refine runs_skip ?_
    refine runs_seq ?_
    refine runs_block ?_
    refine runs_seq ?_
    refine reg [] [0, 1, 7, 8, 5] hG hS (env := [(0, .sl (l.map ia)), (1, .fn (.func 103) [] [.fp [.int .i64 lo] 0, .fp [.int .i64 hi] 0]), (7, .int .i64 ((l.length : Nat) : Int)), (8, .int .i64 ((pre.length : Nat) : Int)), (5, .int .i64 ((pre.length : Nat) : Int))]) (own := []) (obs := []) (by kernel_rfl) (trivial) fun ac wd hS => ?_
    refine runs_seq ?_
    rcases Bool.eq_false_or_eq_true (!within x lo hi) with hb1 | hb1
    · skip
      refine reg [(3, .av (.int .i64 x)), (5, .av (.bool (!within x lo hi)))] [0, 1, 7, 8, 5, 16] hG hS (env := [(0, .sl (l.map ia)), (1, .fn (.func 103) [] [.fp [.int .i64 lo] 0, .fp [.int .i64 hi] 0]), (7, .int .i64 ((l.length : Nat) : Int)), (8, .int .i64 ((pre.length : Nat) : Int)), (5, .int .i64 ((pre.length : Nat) : Int)), (16, .bool (!within x lo hi))]) (own := []) (obs := [0 ≤ (((pre.length : Nat) : Int) : Int) ∧ (l.map ia : List AV)[(((pre.length : Nat) : Int) : Int).toNat]? = some (.int .i64 x), CallA Tryz.prog GT 103 [.int .i64 x, .fp [.int .i64 lo] 0, .fp [.int .i64 hi] 0] (.bool (!within x lo hi))]) (by kernel_rfl) (⟨(idx_ok hl), (inF_ok103 x lo hi)⟩) fun ac wd hS => ?_
      refine cond_yes hS (c := !within x lo hi) (by kernel_rfl) (hb1) ?_
      refine runs_seq ?_
      refine reg [] [4] hG hS (env := [(4, .int .i64 ((pre.length : Nat) : Int))]) (own := []) (obs := []) (by kernel_rfl) (trivial) fun ac wd hS => ?_
      rw [hr]; rw [show (AV.int .i64 (findI (fun x => !within x lo hi) (x :: rest) ((pre.length : Nat) : Int))) = .int .i64 ((pre.length : Nat) : Int) from by simp [findI, hb1]]
      exact retz Tryz.func135 rfl hB hBd hS (by kernel_rfl) rfl
    · skip
      refine reg [(3, .av (.int .i64 x)), (5, .av (.bool (!within x lo hi)))] [0, 1, 7, 8, 5, 16] hG hS (env := [(0, .sl (l.map ia)), (1, .fn (.func 103) [] [.fp [.int .i64 lo] 0, .fp [.int .i64 hi] 0]), (7, .int .i64 ((l.length : Nat) : Int)), (8, .int .i64 ((pre.length : Nat) : Int)), (5, .int .i64 ((pre.length : Nat) : Int)), (16, .bool (!within x lo hi))]) (own := []) (obs := [0 ≤ (((pre.length : Nat) : Int) : Int) ∧ (l.map ia : List AV)[(((pre.length : Nat) : Int) : Int).toNat]? = some (.int .i64 x), CallA Tryz.prog GT 103 [.int .i64 x, .fp [.int .i64 lo] 0, .fp [.int .i64 hi] 0] (.bool (!within x lo hi))]) (by kernel_rfl) (⟨(idx_ok hl), (inF_ok103 x lo hi)⟩) fun ac wd hS => ?_
      refine cond_no hS (c := !within x lo hi) (by kernel_rfl) (hb1) ?_
      refine runs_skip ?_
      refine runs_inBlock ?_
      refine reg [(0, .is (((pre ++ [x]).length : Nat) : Int))] [0, 1, 7, 8] hG hS (env := [(0, .sl (l.map ia)), (1, .fn (.func 103) [] [.fp [.int .i64 lo] 0, .fp [.int .i64 hi] 0]), (7, .int .i64 ((l.length : Nat) : Int)), (8, .int .i64 (((pre ++ [x]).length : Nat) : Int))]) (own := []) (obs := [IntKind.i64.wrap (((pre.length : Nat) : Int) + 1) = (((pre ++ [x]).length : Nat) : Int)]) (by kernel_rfl) ((next_len hl hn)) fun ac wd hS => ?_
      refine runs_inLoop ?_
      exact ihx _ _ (pre ++ [x])  (next_eq hl) (by rw [hr]; simp [findI, hb1]) (hS.sel [] [0, 1, 7, 8] (by kernel_rfl))
theorem findI_any {α : Type} (p : α → Bool) : ∀ (l : List α) (i : Int), 0 ≤ i → decide (findI p l i ≥ 0) = l.any p
  | [], i, _ => by simp [findI]
  | x :: l, i, h => by
    unfold findI
    cases hx : p x
    · simp only [Bool.false_eq_true, if_false]
      rw [findI_any p l (i + 1) (by omega)]; simp [hx]
    · simp [hx]; omega
def inB (lo hi : Int) (l : List Int) : Bool := l.all fun n => within n lo hi
theorem inB_any (lo hi : Int) (l : List Int) : (!l.any fun n => !within n lo hi) = inB lo hi l := by
  unfold inB; induction l with
  | nil => rfl
  | cons x l ih => simp only [List.any_cons, List.all_cons, Bool.not_or, Bool.not_not, ih]
theorem contains_inT (l : List Int) (lo hi : Int) (hn : l.length ≤ 65536) : CallA Tryz.prog GT 91 [.sl (l.map ia), .fn (.func 92) [] [.fp [.int .i64 lo] 0, .fp [.int .i64 hi] 0]] (.bool (l.any fun n => !within n lo hi)) := by
  refine callA_of Tryz.func91 rfl (by simp [Tryz.f91]) rfl fun B ac hB hBd hG hS => ?_
  refine runs_seq ?_
  refine reg [] [0, 1] hG hS (env := [(0, .sl (l.map ia)), (1, .fn (.func 92) [] [.fp [.int .i64 lo] 0, .fp [.int .i64 hi] 0])]) (own := []) (obs := []) (by kernel_rfl) (trivial) fun ac wd hS => ?_
  refine runs_seq ?_
  refine reg [(2, .av (.int .i64 (findI (fun x => !within x lo hi) l 0)))] [4] hG hS (env := [(4, .bool (decide ((findI (fun x => !within x lo hi) l 0) ≥ 0)))]) (own := []) (obs := [CallA Tryz.prog GT 135 [.sl (l.map ia), .fn (.func 92) [] [.fp [.int .i64 lo] 0, .fp [.int .i64 hi] 0]] (.int .i64 (findI (fun x => !within x lo hi) l 0))]) (by kernel_rfl) ((index_inT l lo hi hn)) fun ac wd hS => ?_
  rw [show (AV.bool (l.any fun n => !within n lo hi)) = .bool (decide ((findI (fun x => !within x lo hi) l 0) ≥ 0)) from by rw [findI_any _ _ _ (by omega)]]
  exact retz Tryz.func91 rfl hB hBd hS (by kernel_rfl) rfl
theorem in_ok57 (lo hi : Int) (l : List Int) (hn : l.length ≤ 65536) : CallA Tryz.prog GT 57 [.int .i64 lo, .int .i64 hi, .sl (l.map ia)] (.bool (inB lo hi l)) := by
  refine callA_of Tryz.func57 rfl (by simp [Tryz.f57]) rfl fun B ac hB hBd hG hS => ?_
  refine runs_seq ?_
  refine reg [] [2, 3, 4] hG hS (env := [(2, .sl (l.map ia)), (3, .box 0 0), (4, .box 1 0)]) (own := [.box none 3 [.int .i64 lo], .box none 3 [.int .i64 hi]]) (obs := []) (by kernel_rfl) (trivial) fun ac wd hS => ?_
  refine runs_seq ?_
  refine reg [(2, .lend (.bool (l.any fun n => !within n lo hi)))] [6] hG hS (env := [(6, .bool (!l.any fun n => !within n lo hi))]) (own := [.box none 3 [.int .i64 lo], .box none 3 [.int .i64 hi]]) (obs := [CallA Tryz.prog GT 91 [.sl (l.map ia), .fn (.func 92) [] [.fp [.int .i64 lo] 0, .fp [.int .i64 hi] 0]] (.bool (l.any fun n => !within n lo hi))]) (by kernel_rfl) ((contains_inT l lo hi hn)) fun ac wd hS => ?_
  rw [show (AV.bool (inB lo hi l)) = .bool (!l.any fun n => !within n lo hi) from by rw [inB_any]]
  exact retz Tryz.func57 rfl hB hBd hS (by kernel_rfl) rfl
theorem contains_inA (l : List Int) (lo hi : Int) (hn : l.length ≤ 65536) : CallA Tryz.prog GT 91 [.sl (l.map ia), .fn (.func 103) [] [.fp [.int .i64 lo] 0, .fp [.int .i64 hi] 0]] (.bool (l.any fun n => !within n lo hi)) := by
  refine callA_of Tryz.func91 rfl (by simp [Tryz.f91]) rfl fun B ac hB hBd hG hS => ?_
  refine runs_seq ?_
  refine reg [] [0, 1] hG hS (env := [(0, .sl (l.map ia)), (1, .fn (.func 103) [] [.fp [.int .i64 lo] 0, .fp [.int .i64 hi] 0])]) (own := []) (obs := []) (by kernel_rfl) (trivial) fun ac wd hS => ?_
  refine runs_seq ?_
  refine reg [(2, .av (.int .i64 (findI (fun x => !within x lo hi) l 0)))] [4] hG hS (env := [(4, .bool (decide ((findI (fun x => !within x lo hi) l 0) ≥ 0)))]) (own := []) (obs := [CallA Tryz.prog GT 135 [.sl (l.map ia), .fn (.func 103) [] [.fp [.int .i64 lo] 0, .fp [.int .i64 hi] 0]] (.int .i64 (findI (fun x => !within x lo hi) l 0))]) (by kernel_rfl) ((index_inA l lo hi hn)) fun ac wd hS => ?_
  rw [show (AV.bool (l.any fun n => !within n lo hi)) = .bool (decide ((findI (fun x => !within x lo hi) l 0) ≥ 0)) from by rw [findI_any _ _ _ (by omega)]]
  exact retz Tryz.func91 rfl hB hBd hS (by kernel_rfl) rfl
theorem in_ok77 (lo hi : Int) (l : List Int) (hn : l.length ≤ 65536) : CallA Tryz.prog GT 77 [.int .i64 lo, .int .i64 hi, .sl (l.map ia)] (.bool (inB lo hi l)) := by
  refine callA_of Tryz.func77 rfl (by simp [Tryz.f77]) rfl fun B ac hB hBd hG hS => ?_
  refine runs_seq ?_
  refine reg [] [2, 3, 4] hG hS (env := [(2, .sl (l.map ia)), (3, .box 0 0), (4, .box 1 0)]) (own := [.box none 3 [.int .i64 lo], .box none 3 [.int .i64 hi]]) (obs := []) (by kernel_rfl) (trivial) fun ac wd hS => ?_
  refine runs_seq ?_
  refine reg [(2, .lend (.bool (l.any fun n => !within n lo hi)))] [6] hG hS (env := [(6, .bool (!l.any fun n => !within n lo hi))]) (own := [.box none 3 [.int .i64 lo], .box none 3 [.int .i64 hi]]) (obs := [CallA Tryz.prog GT 91 [.sl (l.map ia), .fn (.func 103) [] [.fp [.int .i64 lo] 0, .fp [.int .i64 hi] 0]] (.bool (l.any fun n => !within n lo hi))]) (by kernel_rfl) ((contains_inA l lo hi hn)) fun ac wd hS => ?_
  rw [show (AV.bool (inB lo hi l)) = .bool (!l.any fun n => !within n lo hi) from by rw [inB_any]]
  exact retz Tryz.func77 rfl hB hBd hS (by kernel_rfl) rfl
theorem land_ok (n : Int) : CallA Tryz.prog GT 56 [.int .i64 n] (.bool (inB 0 99 [n])) := by
  refine callA_of Tryz.func56 rfl (by simp [Tryz.f56]) rfl fun B ac hB hBd hG hS => ?_
  refine runs_seq ?_
  refine reg [] [0] hG hS (env := [(0, .int .i64 n)]) (own := []) (obs := []) (by kernel_rfl) (trivial) fun ac wd hS => ?_
  refine runs_seq ?_
  refine reg [(2, .av (.bool (inB 0 99 [n])))] [2] hG hS (env := [(2, .bool (inB 0 99 [n]))]) (own := []) (obs := [CallA Tryz.prog GT 57 [.int .i64 0, .int .i64 99, .sl [.int .i64 n]] (.bool (inB 0 99 [n]))]) (by kernel_rfl) ((in_ok57 _ _ [n] (by simp))) fun ac wd hS => ?_
  rw [show (.bool (inB 0 99 [n]) : AV) = .bool (inB 0 99 [n]) from by (first | (simp []; done) | (simp []; omega) | (congr 1; simp only []; grind))]
  exact retz Tryz.func56 rfl hB hBd hS (by kernel_rfl) rfl
def orI : List Int → Int
  | [] => 0
  | x :: l => if x = 0 then orI l else x
def lawOK (x : Law) : Bool := inB 0 99 [x.Land] && (inB 1 7 [U8.i x.Kind] && (inB 1 3 [U8.i x.Base] && inB 0 100000 [x.Keep]))
def stillOK (x : Still) : Bool := inB 0 99 [x.Land] && (inB 1 100000 [x.Days] && decide (U8.i x.Means ≤ 2))
def homeOK (x : Home) : Bool := inB 0 999999 [x.Account] && inB 0 99 [x.Land]
def lawCmp (a b : Law) : Int := orI [cmpI a.Land b.Land, cmpI (U8.i a.Kind) (U8.i b.Kind)]
def stillCmp (a b : Still) : Int := cmpI a.Land b.Land
def homeCmp (a b : Home) : Int := cmpI a.Account b.Account
theorem or_ok (l : List Int) (hn : l.length ≤ 65536) : CallA Tryz.prog GT 59 [.sl (l.map ia)] (.int .i64 (orI l)) := by
  refine callA_of Tryz.func59 rfl (by simp [Tryz.f59]) rfl fun B ac hB hBd hG hS => ?_
  refine runs_seq ?_
  refine reg [] [0] hG hS (env := [(0, .sl (l.map ia))]) (own := []) (obs := []) (by kernel_rfl) (trivial) fun ac wd hS => ?_
  refine runs_seq ?_
  refine reg [] [0, 3] hG hS (env := [(0, .sl (l.map ia)), (3, .int .i64 0)]) (own := []) (obs := []) (by kernel_rfl) (trivial) fun ac wd hS => ?_
  refine runs_seq ?_
  refine runs_seq ?_
  refine reg [(1, .is ((l.length : Nat) : Int))] [3, 6, 7, 8] hG hS (env := [(3, .int .i64 0), (6, .sl (l.map ia)), (7, .int .i64 ((l.length : Nat) : Int)), (8, .int .i64 0)]) (own := []) (obs := [((l.map ia).length : Int) = ((l.length : Nat) : Int)]) (by kernel_rfl) (len_map) fun ac wd hS => ?_
  refine runs_block ?_
  refine runs_loop ?_
  have hinv : ∃ (pre rest : List Int), l = pre ++ rest ∧ (orI l = orI rest) ∧ Sat B ⟨Tryz.f59.ntmps, [(3, .int .i64 0), (6, .sl (l.map ia)), (7, .int .i64 ((l.length : Nat) : Int)), (8, .int .i64 ((pre.length : Nat) : Int))], []⟩ ac wd := ⟨[], l, rfl, rfl, hS.sel [] [3, 6, 7, 8] (by kernel_rfl)⟩
  clear hS
  obtain ⟨pre, rest, hl, hr, hS⟩ := hinv
  induction rest generalizing pre  ac wd with
  | nil =>
    refine runs_seq ?_
    refine reg [(0, .dec false)] [3, 6, 7, 8, 9] hG hS (env := [(3, .int .i64 0), (6, .sl (l.map ia)), (7, .int .i64 ((l.length : Nat) : Int)), (8, .int .i64 ((pre.length : Nat) : Int)), (9, .bool false)]) (own := []) (obs := [decide (((pre.length : Nat) : Int) < ((l.length : Nat) : Int)) = false]) (by kernel_rfl) ((lt_no hl)) fun ac wd hS => ?_
    refine runs_seq ?_
    refine cond_no hS (c := false) (by kernel_rfl) rfl ?_
    refine runs_exit (by rfl) ?_
    refine runs_seq ?_
    refine reg [] [2] hG hS (env := [(2, .int .i64 0)]) (own := []) (obs := []) (by kernel_rfl) (trivial) fun ac wd hS => ?_
    rw [hr]; rw [show AV.int .i64 (orI []) = .int .i64 0 from by simp [orI]]
    exact retz Tryz.func59 rfl hB hBd hS (by kernel_rfl) rfl
  | cons x rest ihx =>
    refine runs_seq ?_
    refine reg [(0, .dec true)] [3, 6, 7, 8, 9] hG hS (env := [(3, .int .i64 0), (6, .sl (l.map ia)), (7, .int .i64 ((l.length : Nat) : Int)), (8, .int .i64 ((pre.length : Nat) : Int)), (9, .bool true)]) (own := []) (obs := [decide (((pre.length : Nat) : Int) < ((l.length : Nat) : Int)) = true]) (by kernel_rfl) ((lt_yes hl)) fun ac wd hS => ?_
    refine runs_seq ?_
    refine cond_yes hS (c := true) (by kernel_rfl) rfl ?_
    refine runs_skip ?_
    refine runs_seq ?_
    refine runs_block ?_
    refine runs_seq ?_
    refine reg [(0, .av (.int .i64 x))] [3, 6, 7, 8, 5] hG hS (env := [(3, .int .i64 0), (6, .sl (l.map ia)), (7, .int .i64 ((l.length : Nat) : Int)), (8, .int .i64 ((pre.length : Nat) : Int)), (5, .int .i64 x)]) (own := []) (obs := [0 ≤ (((pre.length : Nat) : Int) : Int) ∧ (l.map ia : List AV)[(((pre.length : Nat) : Int) : Int).toNat]? = some (.int .i64 x)]) (by kernel_rfl) ((idx_ok hl)) fun ac wd hS => ?_
    refine runs_seq ?_
    rcases Bool.eq_false_or_eq_true ((x != 0)) with hb1 | hb1
    · skip
      refine reg [(2, .dec true)] [3, 6, 7, 8, 5, 14] hG hS (env := [(3, .int .i64 0), (6, .sl (l.map ia)), (7, .int .i64 ((l.length : Nat) : Int)), (8, .int .i64 ((pre.length : Nat) : Int)), (5, .int .i64 x), (14, .bool true)]) (own := []) (obs := [(x != 0) = true]) (by kernel_rfl) (hb1) fun ac wd hS => ?_
      refine cond_yes hS (c := true) (by kernel_rfl) rfl ?_
      refine runs_seq ?_
      refine reg [] [2] hG hS (env := [(2, .int .i64 x)]) (own := []) (obs := []) (by kernel_rfl) (trivial) fun ac wd hS => ?_
      rw [hr]; have hz := hb1; simp at hz; rw [show AV.int .i64 (orI (x :: rest)) = .int .i64 x from by simp [orI, hz]]
      exact retz Tryz.func59 rfl hB hBd hS (by kernel_rfl) rfl
    · skip
      refine reg [(2, .dec false)] [3, 6, 7, 8, 5, 14] hG hS (env := [(3, .int .i64 0), (6, .sl (l.map ia)), (7, .int .i64 ((l.length : Nat) : Int)), (8, .int .i64 ((pre.length : Nat) : Int)), (5, .int .i64 x), (14, .bool false)]) (own := []) (obs := [(x != 0) = false]) (by kernel_rfl) (hb1) fun ac wd hS => ?_
      refine cond_no hS (c := false) (by kernel_rfl) rfl ?_
      refine runs_skip ?_
      refine runs_inBlock ?_
      refine reg [(0, .is (((pre ++ [x]).length : Nat) : Int))] [3, 6, 7, 8] hG hS (env := [(3, .int .i64 0), (6, .sl (l.map ia)), (7, .int .i64 ((l.length : Nat) : Int)), (8, .int .i64 (((pre ++ [x]).length : Nat) : Int))]) (own := []) (obs := [IntKind.i64.wrap (((pre.length : Nat) : Int) + 1) = (((pre ++ [x]).length : Nat) : Int)]) (by kernel_rfl) ((next_len hl hn)) fun ac wd hS => ?_
      refine runs_inLoop ?_
      exact ihx _ _ (pre ++ [x])  (next_eq hl) (by have := hb1; simp at this; rw [hr]; simp [orI, this]) (hS.sel [] [3, 6, 7, 8] (by kernel_rfl))
theorem lawOK_ok (r : Law) : CallA Tryz.prog GT 55 [Law.av r] (.bool (lawOK r)) := by
  refine callA_of Tryz.func55 rfl (by simp [Tryz.f55]) rfl fun B ac hB hBd hG hS => ?_
  refine runs_seq ?_
  refine reg [] [1] hG hS (env := [(1, .box 0 0)]) (own := [.box none 66 [.int .i64 r.Land, .int .u8 (U8.i r.Kind), .int .u8 (U8.i r.Base), .int .i64 r.Keep]]) (obs := []) (by kernel_rfl) (trivial) fun ac wd hS => ?_
  refine runs_seq ?_
  rcases Bool.eq_false_or_eq_true (inB 0 99 [r.Land]) with hb1 | hb1
  · skip
    rcases Bool.eq_false_or_eq_true (inB 1 7 [U8.i r.Kind]) with hb2 | hb2
    · skip
      rcases Bool.eq_false_or_eq_true (inB 1 3 [U8.i r.Base]) with hb3 | hb3
      · skip
        refine reg [(2, .av (.bool (inB 0 99 [r.Land]))), (3, .dec true), (6, .is (U8.i r.Kind)), (8, .av (.bool (inB 1 7 [U8.i r.Kind]))), (10, .dec true), (13, .is (U8.i r.Base)), (15, .av (.bool (inB 1 3 [U8.i r.Base]))), (17, .dec true), (21, .av (.bool (inB 0 100000 [r.Keep])))] [2] hG hS (env := [(2, .bool (inB 0 100000 [r.Keep]))]) (own := [.box none 66 [.int .i64 r.Land, .int .u8 (U8.i r.Kind), .int .u8 (U8.i r.Base), .int .i64 r.Keep]]) (obs := [CallA Tryz.prog GT 56 [.int .i64 r.Land] (.bool (inB 0 99 [r.Land])), inB 0 99 [r.Land] = true, IntKind.i64.wrap (U8.i r.Kind) = (U8.i r.Kind), CallA Tryz.prog GT 57 [.int .i64 1, .int .i64 7, .sl [.int .i64 (U8.i r.Kind)]] (.bool (inB 1 7 [U8.i r.Kind])), inB 1 7 [U8.i r.Kind] = true, IntKind.i64.wrap (U8.i r.Base) = (U8.i r.Base), CallA Tryz.prog GT 57 [.int .i64 1, .int .i64 3, .sl [.int .i64 (U8.i r.Base)]] (.bool (inB 1 3 [U8.i r.Base])), inB 1 3 [U8.i r.Base] = true, CallA Tryz.prog GT 57 [.int .i64 0, .int .i64 100000, .sl [.int .i64 r.Keep]] (.bool (inB 0 100000 [r.Keep]))]) (by kernel_rfl) (⟨(land_ok _), hb1, (wrap_u8 _), (in_ok57 _ _ [U8.i r.Kind] (by simp)), hb2, (wrap_u8 _), (in_ok57 _ _ [U8.i r.Base] (by simp)), hb3, (in_ok57 _ _ [r.Keep] (by simp))⟩) fun ac wd hS => ?_
        rw [show (.bool (lawOK r) : AV) = .bool (inB 0 100000 [r.Keep]) from by ((try simp only [decide_eq_true_eq, decide_eq_false_iff_not, beq_iff_eq, beq_eq_false_iff_ne] at hb1); (try simp only [decide_eq_true_eq, decide_eq_false_iff_not, beq_iff_eq, beq_eq_false_iff_ne] at hb2); (try simp only [decide_eq_true_eq, decide_eq_false_iff_not, beq_iff_eq, beq_eq_false_iff_ne] at hb3); first | (simp [lawOK, hb1, hb2, hb3]; done) | (simp [lawOK, hb1, hb2, hb3]; omega) | (congr 1; simp only [lawOK]; grind))]
        exact retz Tryz.func55 rfl hB hBd hS (by kernel_rfl) rfl
      · skip
        refine reg [(2, .av (.bool (inB 0 99 [r.Land]))), (3, .dec true), (6, .is (U8.i r.Kind)), (8, .av (.bool (inB 1 7 [U8.i r.Kind]))), (10, .dec true), (13, .is (U8.i r.Base)), (15, .av (.bool (inB 1 3 [U8.i r.Base]))), (17, .dec false)] [2] hG hS (env := [(2, .bool false)]) (own := [.box none 66 [.int .i64 r.Land, .int .u8 (U8.i r.Kind), .int .u8 (U8.i r.Base), .int .i64 r.Keep]]) (obs := [CallA Tryz.prog GT 56 [.int .i64 r.Land] (.bool (inB 0 99 [r.Land])), inB 0 99 [r.Land] = true, IntKind.i64.wrap (U8.i r.Kind) = (U8.i r.Kind), CallA Tryz.prog GT 57 [.int .i64 1, .int .i64 7, .sl [.int .i64 (U8.i r.Kind)]] (.bool (inB 1 7 [U8.i r.Kind])), inB 1 7 [U8.i r.Kind] = true, IntKind.i64.wrap (U8.i r.Base) = (U8.i r.Base), CallA Tryz.prog GT 57 [.int .i64 1, .int .i64 3, .sl [.int .i64 (U8.i r.Base)]] (.bool (inB 1 3 [U8.i r.Base])), inB 1 3 [U8.i r.Base] = false]) (by kernel_rfl) (⟨(land_ok _), hb1, (wrap_u8 _), (in_ok57 _ _ [U8.i r.Kind] (by simp)), hb2, (wrap_u8 _), (in_ok57 _ _ [U8.i r.Base] (by simp)), hb3⟩) fun ac wd hS => ?_
        rw [show (.bool (lawOK r) : AV) = .bool false from by ((try simp only [decide_eq_true_eq, decide_eq_false_iff_not, beq_iff_eq, beq_eq_false_iff_ne] at hb1); (try simp only [decide_eq_true_eq, decide_eq_false_iff_not, beq_iff_eq, beq_eq_false_iff_ne] at hb2); (try simp only [decide_eq_true_eq, decide_eq_false_iff_not, beq_iff_eq, beq_eq_false_iff_ne] at hb3); first | (simp [lawOK, hb1, hb2, hb3]; done) | (simp [lawOK, hb1, hb2, hb3]; omega) | (congr 1; simp only [lawOK]; grind))]
        exact retz Tryz.func55 rfl hB hBd hS (by kernel_rfl) rfl
    · skip
      refine reg [(2, .av (.bool (inB 0 99 [r.Land]))), (3, .dec true), (6, .is (U8.i r.Kind)), (8, .av (.bool (inB 1 7 [U8.i r.Kind]))), (10, .dec false)] [2] hG hS (env := [(2, .bool false)]) (own := [.box none 66 [.int .i64 r.Land, .int .u8 (U8.i r.Kind), .int .u8 (U8.i r.Base), .int .i64 r.Keep]]) (obs := [CallA Tryz.prog GT 56 [.int .i64 r.Land] (.bool (inB 0 99 [r.Land])), inB 0 99 [r.Land] = true, IntKind.i64.wrap (U8.i r.Kind) = (U8.i r.Kind), CallA Tryz.prog GT 57 [.int .i64 1, .int .i64 7, .sl [.int .i64 (U8.i r.Kind)]] (.bool (inB 1 7 [U8.i r.Kind])), inB 1 7 [U8.i r.Kind] = false]) (by kernel_rfl) (⟨(land_ok _), hb1, (wrap_u8 _), (in_ok57 _ _ [U8.i r.Kind] (by simp)), hb2⟩) fun ac wd hS => ?_
      rw [show (.bool (lawOK r) : AV) = .bool false from by ((try simp only [decide_eq_true_eq, decide_eq_false_iff_not, beq_iff_eq, beq_eq_false_iff_ne] at hb1); (try simp only [decide_eq_true_eq, decide_eq_false_iff_not, beq_iff_eq, beq_eq_false_iff_ne] at hb2); first | (simp [lawOK, hb1, hb2]; done) | (simp [lawOK, hb1, hb2]; omega) | (congr 1; simp only [lawOK]; grind))]
      exact retz Tryz.func55 rfl hB hBd hS (by kernel_rfl) rfl
  · skip
    refine reg [(2, .av (.bool (inB 0 99 [r.Land]))), (3, .dec false)] [2] hG hS (env := [(2, .bool false)]) (own := [.box none 66 [.int .i64 r.Land, .int .u8 (U8.i r.Kind), .int .u8 (U8.i r.Base), .int .i64 r.Keep]]) (obs := [CallA Tryz.prog GT 56 [.int .i64 r.Land] (.bool (inB 0 99 [r.Land])), inB 0 99 [r.Land] = false]) (by kernel_rfl) (⟨(land_ok _), hb1⟩) fun ac wd hS => ?_
    rw [show (.bool (lawOK r) : AV) = .bool false from by ((try simp only [decide_eq_true_eq, decide_eq_false_iff_not, beq_iff_eq, beq_eq_false_iff_ne] at hb1); first | (simp [lawOK, hb1]; done) | (simp [lawOK, hb1]; omega) | (congr 1; simp only [lawOK]; grind))]
    exact retz Tryz.func55 rfl hB hBd hS (by kernel_rfl) rfl
theorem stillOK_ok (r : Still) : CallA Tryz.prog GT 63 [Still.av r] (.bool (stillOK r)) := by
  refine callA_of Tryz.func63 rfl (by simp [Tryz.f63]) rfl fun B ac hB hBd hG hS => ?_
  refine runs_seq ?_
  refine reg [] [1] hG hS (env := [(1, .box 0 0)]) (own := [.box none 91 [.int .i64 r.Land, .int .i64 r.Days, .int .u8 (U8.i r.Means)]]) (obs := []) (by kernel_rfl) (trivial) fun ac wd hS => ?_
  refine runs_seq ?_
  rcases Bool.eq_false_or_eq_true (inB 0 99 [r.Land]) with hb1 | hb1
  · skip
    rcases Bool.eq_false_or_eq_true (inB 1 100000 [r.Days]) with hb2 | hb2
    · skip
      refine reg [(2, .av (.bool (inB 0 99 [r.Land]))), (3, .dec true), (7, .av (.bool (inB 1 100000 [r.Days]))), (9, .dec true)] [2] hG hS (env := [(2, .bool (decide ((U8.i r.Means) ≤ 2)))]) (own := [.box none 91 [.int .i64 r.Land, .int .i64 r.Days, .int .u8 (U8.i r.Means)]]) (obs := [CallA Tryz.prog GT 56 [.int .i64 r.Land] (.bool (inB 0 99 [r.Land])), inB 0 99 [r.Land] = true, CallA Tryz.prog GT 57 [.int .i64 1, .int .i64 100000, .sl [.int .i64 r.Days]] (.bool (inB 1 100000 [r.Days])), inB 1 100000 [r.Days] = true]) (by kernel_rfl) (⟨(land_ok _), hb1, (in_ok57 _ _ [r.Days] (by simp)), hb2⟩) fun ac wd hS => ?_
      rw [show (.bool (stillOK r) : AV) = .bool (decide ((U8.i r.Means) ≤ 2)) from by ((try simp only [decide_eq_true_eq, decide_eq_false_iff_not, beq_iff_eq, beq_eq_false_iff_ne] at hb1); (try simp only [decide_eq_true_eq, decide_eq_false_iff_not, beq_iff_eq, beq_eq_false_iff_ne] at hb2); first | (simp [stillOK, hb1, hb2]; done) | (simp [stillOK, hb1, hb2]; omega) | (congr 1; simp only [stillOK]; grind))]
      exact retz Tryz.func63 rfl hB hBd hS (by kernel_rfl) rfl
    · skip
      refine reg [(2, .av (.bool (inB 0 99 [r.Land]))), (3, .dec true), (7, .av (.bool (inB 1 100000 [r.Days]))), (9, .dec false)] [2] hG hS (env := [(2, .bool false)]) (own := [.box none 91 [.int .i64 r.Land, .int .i64 r.Days, .int .u8 (U8.i r.Means)]]) (obs := [CallA Tryz.prog GT 56 [.int .i64 r.Land] (.bool (inB 0 99 [r.Land])), inB 0 99 [r.Land] = true, CallA Tryz.prog GT 57 [.int .i64 1, .int .i64 100000, .sl [.int .i64 r.Days]] (.bool (inB 1 100000 [r.Days])), inB 1 100000 [r.Days] = false]) (by kernel_rfl) (⟨(land_ok _), hb1, (in_ok57 _ _ [r.Days] (by simp)), hb2⟩) fun ac wd hS => ?_
      rw [show (.bool (stillOK r) : AV) = .bool false from by ((try simp only [decide_eq_true_eq, decide_eq_false_iff_not, beq_iff_eq, beq_eq_false_iff_ne] at hb1); (try simp only [decide_eq_true_eq, decide_eq_false_iff_not, beq_iff_eq, beq_eq_false_iff_ne] at hb2); first | (simp [stillOK, hb1, hb2]; done) | (simp [stillOK, hb1, hb2]; omega) | (congr 1; simp only [stillOK]; grind))]
      exact retz Tryz.func63 rfl hB hBd hS (by kernel_rfl) rfl
  · skip
    refine reg [(2, .av (.bool (inB 0 99 [r.Land]))), (3, .dec false)] [2] hG hS (env := [(2, .bool false)]) (own := [.box none 91 [.int .i64 r.Land, .int .i64 r.Days, .int .u8 (U8.i r.Means)]]) (obs := [CallA Tryz.prog GT 56 [.int .i64 r.Land] (.bool (inB 0 99 [r.Land])), inB 0 99 [r.Land] = false]) (by kernel_rfl) (⟨(land_ok _), hb1⟩) fun ac wd hS => ?_
    rw [show (.bool (stillOK r) : AV) = .bool false from by ((try simp only [decide_eq_true_eq, decide_eq_false_iff_not, beq_iff_eq, beq_eq_false_iff_ne] at hb1); first | (simp [stillOK, hb1]; done) | (simp [stillOK, hb1]; omega) | (congr 1; simp only [stillOK]; grind))]
    exact retz Tryz.func63 rfl hB hBd hS (by kernel_rfl) rfl
theorem homeOK_ok (r : Home) : CallA Tryz.prog GT 66 [Home.av r] (.bool (homeOK r)) := by
  refine callA_of Tryz.func66 rfl (by simp [Tryz.f66]) rfl fun B ac hB hBd hG hS => ?_
  refine runs_seq ?_
  refine reg [] [1] hG hS (env := [(1, .box 0 0)]) (own := [.box none 68 [.int .i64 r.Account, .int .i64 r.Land]]) (obs := []) (by kernel_rfl) (trivial) fun ac wd hS => ?_
  refine runs_seq ?_
  rcases Bool.eq_false_or_eq_true (inB 0 999999 [r.Account]) with hb1 | hb1
  · skip
    refine reg [(3, .av (.bool (inB 0 999999 [r.Account]))), (4, .dec true), (7, .av (.bool (inB 0 99 [r.Land])))] [2] hG hS (env := [(2, .bool (inB 0 99 [r.Land]))]) (own := [.box none 68 [.int .i64 r.Account, .int .i64 r.Land]]) (obs := [CallA Tryz.prog GT 57 [.int .i64 0, .int .i64 999999, .sl [.int .i64 r.Account]] (.bool (inB 0 999999 [r.Account])), inB 0 999999 [r.Account] = true, CallA Tryz.prog GT 56 [.int .i64 r.Land] (.bool (inB 0 99 [r.Land]))]) (by kernel_rfl) (⟨(in_ok57 _ _ [r.Account] (by simp)), hb1, (land_ok _)⟩) fun ac wd hS => ?_
    rw [show (.bool (homeOK r) : AV) = .bool (inB 0 99 [r.Land]) from by ((try simp only [decide_eq_true_eq, decide_eq_false_iff_not, beq_iff_eq, beq_eq_false_iff_ne] at hb1); first | (simp [homeOK, hb1]; done) | (simp [homeOK, hb1]; omega) | (congr 1; simp only [homeOK]; grind))]
    exact retz Tryz.func66 rfl hB hBd hS (by kernel_rfl) rfl
  · skip
    refine reg [(3, .av (.bool (inB 0 999999 [r.Account]))), (4, .dec false)] [2] hG hS (env := [(2, .bool false)]) (own := [.box none 68 [.int .i64 r.Account, .int .i64 r.Land]]) (obs := [CallA Tryz.prog GT 57 [.int .i64 0, .int .i64 999999, .sl [.int .i64 r.Account]] (.bool (inB 0 999999 [r.Account])), inB 0 999999 [r.Account] = false]) (by kernel_rfl) (⟨(in_ok57 _ _ [r.Account] (by simp)), hb1⟩) fun ac wd hS => ?_
    rw [show (.bool (homeOK r) : AV) = .bool false from by ((try simp only [decide_eq_true_eq, decide_eq_false_iff_not, beq_iff_eq, beq_eq_false_iff_ne] at hb1); first | (simp [homeOK, hb1]; done) | (simp [homeOK, hb1]; omega) | (congr 1; simp only [homeOK]; grind))]
    exact retz Tryz.func66 rfl hB hBd hS (by kernel_rfl) rfl
theorem lawCmp_ok (p q : Law) : CallA Tryz.prog GT 58 [Law.av p, Law.av q] (.int .i64 (lawCmp p q)) := by
  refine callA_of Tryz.func58 rfl (by simp [Tryz.f58]) rfl fun B ac hB hBd hG hS => ?_
  refine runs_seq ?_
  refine reg [] [2, 3] hG hS (env := [(2, .box 0 0), (3, .box 1 0)]) (own := [.box none 66 [.int .i64 p.Land, .int .u8 (U8.i p.Kind), .int .u8 (U8.i p.Base), .int .i64 p.Keep], .box none 66 [.int .i64 q.Land, .int .u8 (U8.i q.Kind), .int .u8 (U8.i q.Base), .int .i64 q.Keep]]) (obs := []) (by kernel_rfl) (trivial) fun ac wd hS => ?_
  refine runs_seq ?_
  refine drw [(4, .av (.int .i64 (cmpI p.Land q.Land))), (9, .av (.int .i64 (cmpI (U8.i p.Kind) (U8.i q.Kind)))), (11, .av (.int .i64 (orI [cmpI p.Land q.Land, cmpI (U8.i p.Kind) (U8.i q.Kind)])))] [4] hG hS (env := [(4, .int .i64 (orI [cmpI p.Land q.Land, cmpI (U8.i p.Kind) (U8.i q.Kind)]))]) (own := [.box none 66 [.int .i64 p.Land, .int .u8 (U8.i p.Kind), .int .u8 (U8.i p.Base), .int .i64 p.Keep], .box none 66 [.int .i64 q.Land, .int .u8 (U8.i q.Kind), .int .u8 (U8.i q.Base), .int .i64 q.Keep]]) (obs := [CallA Tryz.prog GT 60 [.int .i64 p.Land, .int .i64 q.Land] (.int .i64 (cmpI p.Land q.Land)), CallA Tryz.prog GT 61 [.int .u8 (U8.i p.Kind), .int .u8 (U8.i q.Kind)] (.int .i64 (cmpI (U8.i p.Kind) (U8.i q.Kind))), CallA Tryz.prog GT 59 [.sl [.int .i64 (cmpI p.Land q.Land), .int .i64 (cmpI (U8.i p.Kind) (U8.i q.Kind))]] (.int .i64 (orI [cmpI p.Land q.Land, cmpI (U8.i p.Kind) (U8.i q.Kind)]))]) (by kernel_rfl) (by kernel_rfl) (⟨(cmp_ok60 _ _), (cmp_ok61 _ _), (or_ok [cmpI p.Land q.Land, cmpI (U8.i p.Kind) (U8.i q.Kind)] (by simp))⟩) fun ac wd hS => ?_
  rw [show (.int .i64 (lawCmp p q) : AV) = .int .i64 (orI [cmpI p.Land q.Land, cmpI (U8.i p.Kind) (U8.i q.Kind)]) from by (first | (simp [lawCmp]; done) | (simp [lawCmp]; omega) | (congr 1; simp only [lawCmp]; grind))]
  exact retz Tryz.func58 rfl hB hBd hS (by kernel_rfl) rfl
theorem stillCmp_ok (p q : Still) : CallA Tryz.prog GT 64 [Still.av p, Still.av q] (.int .i64 (stillCmp p q)) := by
  refine callA_of Tryz.func64 rfl (by simp [Tryz.f64]) rfl fun B ac hB hBd hG hS => ?_
  refine runs_seq ?_
  refine reg [] [2, 3] hG hS (env := [(2, .box 0 0), (3, .box 1 0)]) (own := [.box none 91 [.int .i64 p.Land, .int .i64 p.Days, .int .u8 (U8.i p.Means)], .box none 91 [.int .i64 q.Land, .int .i64 q.Days, .int .u8 (U8.i q.Means)]]) (obs := []) (by kernel_rfl) (trivial) fun ac wd hS => ?_
  refine runs_seq ?_
  refine reg [(4, .av (.int .i64 (cmpI p.Land q.Land)))] [4] hG hS (env := [(4, .int .i64 (cmpI p.Land q.Land))]) (own := [.box none 91 [.int .i64 p.Land, .int .i64 p.Days, .int .u8 (U8.i p.Means)], .box none 91 [.int .i64 q.Land, .int .i64 q.Days, .int .u8 (U8.i q.Means)]]) (obs := [CallA Tryz.prog GT 60 [.int .i64 p.Land, .int .i64 q.Land] (.int .i64 (cmpI p.Land q.Land))]) (by kernel_rfl) ((cmp_ok60 _ _)) fun ac wd hS => ?_
  rw [show (.int .i64 (stillCmp p q) : AV) = .int .i64 (cmpI p.Land q.Land) from by (first | (simp [stillCmp]; done) | (simp [stillCmp]; omega) | (congr 1; simp only [stillCmp]; grind))]
  exact retz Tryz.func64 rfl hB hBd hS (by kernel_rfl) rfl
theorem homeCmp_ok (p q : Home) : CallA Tryz.prog GT 67 [Home.av p, Home.av q] (.int .i64 (homeCmp p q)) := by
  refine callA_of Tryz.func67 rfl (by simp [Tryz.f67]) rfl fun B ac hB hBd hG hS => ?_
  refine runs_seq ?_
  refine reg [] [2, 3] hG hS (env := [(2, .box 0 0), (3, .box 1 0)]) (own := [.box none 68 [.int .i64 p.Account, .int .i64 p.Land], .box none 68 [.int .i64 q.Account, .int .i64 q.Land]]) (obs := []) (by kernel_rfl) (trivial) fun ac wd hS => ?_
  refine runs_seq ?_
  refine reg [(4, .av (.int .i64 (cmpI p.Account q.Account)))] [4] hG hS (env := [(4, .int .i64 (cmpI p.Account q.Account))]) (own := [.box none 68 [.int .i64 p.Account, .int .i64 p.Land], .box none 68 [.int .i64 q.Account, .int .i64 q.Land]]) (obs := [CallA Tryz.prog GT 60 [.int .i64 p.Account, .int .i64 q.Account] (.int .i64 (cmpI p.Account q.Account))]) (by kernel_rfl) ((cmp_ok60 _ _)) fun ac wd hS => ?_
  rw [show (.int .i64 (homeCmp p q) : AV) = .int .i64 (cmpI p.Account q.Account) from by (first | (simp [homeCmp]; done) | (simp [homeCmp]; omega) | (congr 1; simp only [homeCmp]; grind))]
  exact retz Tryz.func67 rfl hB hBd hS (by kernel_rfl) rfl
end Go.Fw

