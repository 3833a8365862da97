/- A part of the following proof. The law TermLasts returns true at every input and leaves the input as it was. -/
import Derived.Test.YtmhglopmmpedfaaGreatDoorM4
set_option linter.unusedSimpArgs false
set_option linter.unusedVariables false
set_option linter.unnecessarySimpa false
set_option linter.all false
set_option maxRecDepth 20000
namespace Go.Fw
open Go.Proofs

theorem getR_app (l : List Report) (x : Report) (id : Int) : getR (l ++ [x]) id = (getR l id).or (if x.Id == id then some x else none) := by
  unfold getR
  rw [List.find?_append]
  cases h : (x.Id == id) <;> simp [List.find?, h]
theorem atI_neg {l : List Report} {id : Int} : decide (atI l id < 0) = (getR l id).isNone := by
  rcases at_cases l id with ⟨h1, h2⟩ | ⟨q, h1, h2, h3⟩
  · rw [h1, h2]; rfl
  · rw [h3]; simpa using h1
theorem known_spec (known : Int) : ∀ (l out : List Report), (∀ x ∈ l, 0 ≤ x.Id) → UniqR out → UniqR (l.foldl (knownStep known) out) ∧ (l.foldl (knownStep known) out).length ≤ out.length + l.length ∧ ∀ x ∈ l.foldl (knownStep known) out, x ∈ out ∨ (x ∈ l ∧ x.Made ≤ known)
  | [], out, _, h => ⟨h, by simp, fun x hx => .inl hx⟩
  | x :: l, out, hp, h => by
    simp only [List.foldl_cons]
    have hp' : ∀ y ∈ l, 0 ≤ y.Id := fun y hy => hp y (by simp [hy])
    cases hc : decide (x.Made ≤ known) && decide (atI out x.Id < 0)
    · have e : knownStep known out x = out := by simp [knownStep, hc]
      rw [e]
      obtain ⟨h1, h2, h3⟩ := known_spec known l out hp' h
      refine ⟨h1, by simp only [List.length_cons]; omega, fun y hy => ?_⟩
      rcases h3 y hy with h4 | h4
      · exact .inl h4
      · exact .inr ⟨by simp [h4.1], h4.2⟩
    · have e : knownStep known out x = out ++ [x] := by simp [knownStep, hc]
      rw [e]
      simp only [Bool.and_eq_true, decide_eq_true_eq] at hc
      have hn : getR out x.Id = none := by
        have := atI_neg (l := out) (id := x.Id)
        rw [decide_eq_true hc.2] at this
        simpa using this.symm
      have hu : UniqR (out ++ [x]) := by
        intro y hy
        rcases List.mem_append.1 hy with hy | hy
        · obtain ⟨a1, a2⟩ := h y hy
          exact ⟨by rw [getR_app, a1]; rfl, a2⟩
        · simp at hy; subst hy
          exact ⟨by rw [getR_app, hn]; simp, hp _ (by simp)⟩
      obtain ⟨h1, h2, h3⟩ := known_spec known l (out ++ [x]) hp' hu
      refine ⟨h1, by simp at h2 ⊢; omega, fun y hy => ?_⟩
      rcases h3 y hy with h4 | h4
      · rcases List.mem_append.1 h4 with h4 | h4
        · exact .inl h4
        · simp at h4; subst h4; exact .inr ⟨by simp, hc.1⟩
      · exact .inr ⟨by simp [h4.1], h4.2⟩
theorem standing_len (l : List Report) : ∀ (m out : List Report), (m.foldl (standStep l) out).length ≤ out.length + m.length
  | [], out => by simp
  | x :: m, out => by
    simp only [List.foldl_cons, List.length_cons]
    have := standing_len l m (standStep l out x)
    have h2 : (standStep l out x).length ≤ out.length + 1 := by
      unfold standStep
      split
      · omega
      · rw [insRep_len]; omega
    omega
structure Fine (l : List Report) : Prop where
  len : l.length ≤ 60
  ok : ∀ x ∈ l, validB x = true
  pair : pairsB [] l = true
theorem fine_of {l : List Report} (h : checkR l = 0) : Fine l := by
  unfold checkR at h
  split at h
  · omega
  split at h
  · split at h
    · rename_i h1 h2 h3
      exact ⟨by omega, fun x hx => List.all_eq_true.1 h2 x hx, h3⟩
    · omega
  · omega
theorem Fine.check {l : List Report} (h : Fine l) : checkR l = 0 := by
  unfold checkR
  rw [if_neg (by have := h.len; omega), if_pos (List.all_eq_true.2 h.ok), if_pos h.pair]
theorem valid_id {x : Report} (h : validB x = true) : 0 ≤ x.Id ∧ x.Id ≤ 999999 := by
  simp only [validB, within, Bool.and_eq_true, decide_eq_true_eq] at h
  omega
theorem Fine.uniq {l : List Report} (h : Fine l) (d : Int) : UniqR (knownL l d) := (known_spec d l [] (fun x hx => (valid_id (h.ok x hx)).1) (fun x hx => by simp at hx)).1
theorem Fine.klen {l : List Report} (h : Fine l) (d : Int) : (knownL l d).length ≤ 60 := by
  have h1 := (known_spec d l [] (fun x hx => (valid_id (h.ok x hx)).1) (fun x hx => by simp at hx)).2.1
  have h2 := h.len
  simp at h1; unfold knownL; omega
def factsL (l : List Report) (d : Int) : List Report := standingL (knownL l d)
theorem Fine.flen {l : List Report} (h : Fine l) (d : Int) : (factsL l d).length ≤ 60 := by
  have h1 := standing_len (knownL l d) (knownL l d) []
  have h2 := h.klen d
  simp at h1; unfold factsL standingL; omega
theorem standRef_ok (l : List Report) (known : Int) (hl : Fine l) (hd : within known 0 100000 = true) : CallA Tryz.prog GT 47 [.sl (l.map Report.av), .int .i64 known] (.tup [.sl ((factsL l known).map Report.av), .int .i64 0]) := by
  have hn : l.length ≤ 60 := hl.len
  refine callA_of Tryz.func47 rfl (by simp [Tryz.f47]) rfl fun B ac hB hBd hG hS => ?_
  refine runs_seq ?_
  refine reg [] [0, 1] hG hS (env := [(0, .sl (l.map Report.av)), (1, .int .i64 known)]) (own := []) (obs := []) (by kernel_rfl) (trivial) fun ac wd hS => ?_
  refine runs_seq ?_
  refine runs_seq ?_
  refine reg [(1, .av (.int .i64 (checkR l)))] [0, 1, 6] hG hS (env := [(0, .sl (l.map Report.av)), (1, .int .i64 known), (6, .int .i64 (checkR l))]) (own := []) (obs := [CallA Tryz.prog GT 75 [.sl (l.map Report.av)] (.int .i64 (checkR l))]) (by kernel_rfl) ((checkR_ok _ (by omega))) fun ac wd hS => ?_
  refine runs_seq ?_
  refine reg [(1, .dec false)] [0, 1, 6, 10] hG hS (env := [(0, .sl (l.map Report.av)), (1, .int .i64 known), (6, .int .i64 (checkR l)), (10, .bool false)]) (own := []) (obs := [((checkR l) != 0) = false]) (by kernel_rfl) ((by rw [hl.check]; rfl)) fun ac wd hS => ?_
  refine cond_no hS (c := false) (by kernel_rfl) rfl ?_
  refine runs_skip ?_
  refine runs_seq ?_
  refine runs_seq ?_
  refine reg [(1, .av (.bool (within known 0 100000))), (2, .dec false)] [0, 1, 14] hG hS (env := [(0, .sl (l.map Report.av)), (1, .int .i64 known), (14, .bool false)]) (own := []) (obs := [CallA Tryz.prog GT 84 [.int .i64 known, .int .i64 0, .int .i64 100000] (.bool (within known 0 100000)), (!within known 0 100000) = false]) (by kernel_rfl) (⟨(within_ok84 _ _ _), by rw [hd]; rfl⟩) fun ac wd hS => ?_
  refine cond_no hS (c := false) (by kernel_rfl) rfl ?_
  refine runs_skip ?_
  refine runs_seq ?_
  refine reg [(2, .av (.sl ((knownL l known).map Report.av))), (3, .av (.sl ((factsL l known).map Report.av)))] [4, 5] hG hS (env := [(4, .sl ((factsL l known).map Report.av)), (5, .int .i64 0)]) (own := []) (obs := [CallA Tryz.prog GT 86 [.sl (l.map Report.av), .int .i64 known] (.sl ((knownL l known).map Report.av)), CallA Tryz.prog GT 85 [.sl ((knownL l known).map Report.av)] (.sl ((factsL l known).map Report.av))]) (by kernel_rfl) (⟨(known_ok _ _ (by omega)), (standing_ok _ (hl.uniq known) (by have := hl.klen known; omega))⟩) fun ac wd hS => ?_
  rw [show (.tup [.sl ((factsL l known).map Report.av), .int .i64 0] : AV) = .tup [.sl ((factsL l known).map Report.av), .int .i64 0] from rfl]
  exact retz Tryz.func47 rfl hB hBd hS (by kernel_rfl) rfl
theorem asked_fine {c : Code} {h : List Home} {l : List Report} (ha : (askedI c h l != 0) = false) : Fine l ∧ checkRefI c h = 0 := by
  simp only [bne_eq_false_iff_eq] at ha
  unfold askedI at ha
  cases hc : checkRefI c h != 0
  · simp only [hc, Bool.false_eq_true, if_false] at ha
    exact ⟨fine_of ha, by simpa using hc⟩
  · simp only [hc, if_true] at ha
    rw [ha] at hc; cases hc
def lastR (c : Code) (homes : List Home) (l : List Report) (id day : Int) : Int × Int :=
  if (askedI c homes l != 0) then (0, askedI c homes l) else if !within day 0 100000 then (0, 2) else
  match getR (factsL l day) id with
  | none => (0, 6)
  | some q => if (lastRef c homes (factsL l day) q).isSome then ((lastRef c homes (factsL l day) q).getD 0, 0) else (0, 6)
theorem lastRef_call (c : Code) (homes : List Home) (l : List Report) (id day : Int) (hc1 : c.Laws.length ≤ 65536) (hc2 : c.Stills.length ≤ 65536) (hh : homes.length ≤ 65536) (hn : l.length ≤ 65536) : CallA Tryz.prog GT 16 [Code.av c, .sl (homes.map Home.av), .sl (l.map Report.av), .int .i64 id, .int .i64 day] (.tup [.int .i64 (lastR c homes l id day).1, .int .i64 (lastR c homes l id day).2]) := by
  refine callA_of Tryz.func16 rfl (by simp [Tryz.f16]) rfl fun B ac hB hBd hG hS => ?_
  refine runs_seq ?_
  refine reg [] [1, 2, 3, 4, 5] hG hS (env := [(1, .sl (homes.map Home.av)), (2, .sl (l.map Report.av)), (3, .int .i64 id), (4, .int .i64 day), (5, .box 0 0)]) (own := [.box none 25 [.sl (c.Laws.map Law.av), .sl (c.Stills.map Still.av)]]) (obs := []) (by kernel_rfl) (trivial) fun ac wd hS => ?_
  refine runs_seq ?_
  refine runs_seq ?_
  refine reg [(3, .av (.int .i64 (askedI c homes l)))] [1, 2, 3, 4, 5, 12] hG hS (env := [(1, .sl (homes.map Home.av)), (2, .sl (l.map Report.av)), (3, .int .i64 id), (4, .int .i64 day), (5, .box 0 0), (12, .int .i64 (askedI c homes l))]) (own := [.box none 25 [.sl (c.Laws.map Law.av), .sl (c.Stills.map Still.av)]]) (obs := [CallA Tryz.prog GT 45 [Code.av c, .sl (homes.map Home.av), .sl (l.map Report.av)] (.int .i64 (askedI c homes l))]) (by kernel_rfl) ((asked_ok _ _ _ hc1 hc2 hh hn)) fun ac wd hS => ?_
  refine runs_seq ?_
  rcases Bool.eq_false_or_eq_true (((askedI c homes l) != 0)) with hb1 | hb1
  · skip
    refine reg [(1, .dec true)] [1, 2, 3, 4, 5, 12, 23] hG hS (env := [(1, .sl (homes.map Home.av)), (2, .sl (l.map Report.av)), (3, .int .i64 id), (4, .int .i64 day), (5, .box 0 0), (12, .int .i64 (askedI c homes l)), (23, .bool true)]) (own := [.box none 25 [.sl (c.Laws.map Law.av), .sl (c.Stills.map Still.av)]]) (obs := [((askedI c homes l) != 0) = true]) (by kernel_rfl) (hb1) fun ac wd hS => ?_
    refine cond_yes hS (c := true) (by kernel_rfl) rfl ?_
    refine runs_seq ?_
    refine reg [] [10, 11] hG hS (env := [(10, .int .i64 0), (11, .int .i64 (askedI c homes l))]) (own := [.box none 25 [.sl (c.Laws.map Law.av), .sl (c.Stills.map Still.av)]]) (obs := []) (by kernel_rfl) (trivial) fun ac wd hS => ?_
    rw [show (.tup [.int .i64 (lastR c homes l id day).1, .int .i64 (lastR c homes l id day).2] : AV) = .tup [.int .i64 0, .int .i64 (askedI c homes l)] from by simp only [lastR, hb1, Bool.and_true, Bool.true_and, Bool.and_false, Bool.false_and, Bool.or_true, Bool.true_or, Bool.or_false, Bool.false_or, Bool.not_true, Bool.not_false, Bool.false_eq_true, if_true, if_false]]
    exact retz Tryz.func16 rfl hB hBd hS (by kernel_rfl) rfl
  · skip
    refine reg [(1, .dec false)] [1, 2, 3, 4, 5, 12, 23] hG hS (env := [(1, .sl (homes.map Home.av)), (2, .sl (l.map Report.av)), (3, .int .i64 id), (4, .int .i64 day), (5, .box 0 0), (12, .int .i64 (askedI c homes l)), (23, .bool false)]) (own := [.box none 25 [.sl (c.Laws.map Law.av), .sl (c.Stills.map Still.av)]]) (obs := [((askedI c homes l) != 0) = false]) (by kernel_rfl) (hb1) fun ac wd hS => ?_
    refine cond_no hS (c := false) (by kernel_rfl) rfl ?_
    refine runs_skip ?_
    refine runs_seq ?_
    refine runs_seq ?_
    rcases Bool.eq_false_or_eq_true (within day 0 100000) with hb2 | hb2
    · skip
      refine reg [(1, .av (.bool (within day 0 100000))), (2, .dec false)] [1, 2, 3, 4, 5, 27] hG hS (env := [(1, .sl (homes.map Home.av)), (2, .sl (l.map Report.av)), (3, .int .i64 id), (4, .int .i64 day), (5, .box 0 0), (27, .bool false)]) (own := [.box none 25 [.sl (c.Laws.map Law.av), .sl (c.Stills.map Still.av)]]) (obs := [CallA Tryz.prog GT 46 [.int .i64 day, .int .i64 0, .int .i64 100000] (.bool (within day 0 100000)), (!within day 0 100000) = false]) (by kernel_rfl) (⟨(within_ok46 _ _ _), by rw [hb2]; rfl⟩) fun ac wd hS => ?_
      refine cond_no hS (c := false) (by kernel_rfl) rfl ?_
      refine runs_skip ?_
      refine runs_seq ?_
      rcases (⟨factsL l day, rfl, (asked_fine hb1).1, by have := (asked_fine hb1).1.flen day; omega⟩ : ∃ f, f = factsL l day ∧ Fine l ∧ f.length ≤ 65536) with ⟨facts, hfe, hfine, hf⟩
      · skip
        refine reg [(2, .av (.tup [.sl (facts.map Report.av), .int .i64 0]))] [1, 3, 5, 13] hG hS (env := [(1, .sl (homes.map Home.av)), (3, .int .i64 id), (5, .box 0 0), (13, .sl (facts.map Report.av))]) (own := [.box none 25 [.sl (c.Laws.map Law.av), .sl (c.Stills.map Still.av)]]) (obs := [CallA Tryz.prog GT 47 [.sl (l.map Report.av), .int .i64 day] (.tup [.sl (facts.map Report.av), .int .i64 0])]) (by kernel_rfl) ((by rw [hfe]; exact standRef_ok _ _ hfine hb2)) fun ac wd hS => ?_
        refine runs_seq ?_
        rcases at_cases facts id with hat1 | ⟨q1, hat1a, hat1b, hat1c⟩
        · skip
          refine reg [(2, .av (.int .i64 (atI facts id)))] [1, 5, 13, 15] hG hS (env := [(1, .sl (homes.map Home.av)), (5, .box 0 0), (13, .sl (facts.map Report.av)), (15, .int .i64 (atI facts id))]) (own := [.box none 25 [.sl (c.Laws.map Law.av), .sl (c.Stills.map Still.av)]]) (obs := [CallA Tryz.prog GT 48 [.sl (facts.map Report.av), .int .i64 id] (.int .i64 (atI facts id))]) (by kernel_rfl) ((at_ok _ _ hf)) fun ac wd hS => ?_
          refine runs_seq ?_
          refine runs_seq ?_
          refine reg [(1, .dec true)] [1, 5, 13, 15, 38] hG hS (env := [(1, .sl (homes.map Home.av)), (5, .box 0 0), (13, .sl (facts.map Report.av)), (15, .int .i64 (atI facts id)), (38, .bool true)]) (own := [.box none 25 [.sl (c.Laws.map Law.av), .sl (c.Stills.map Still.av)]]) (obs := [decide ((atI facts id) < 0) = true]) (by kernel_rfl) ((at_lt0 hat1)) fun ac wd hS => ?_
          refine cond_yes hS (c := true) (by kernel_rfl) rfl ?_
          refine runs_seq ?_
          refine reg [] [10, 11] hG hS (env := [(10, .int .i64 0), (11, .int .i64 6)]) (own := [.box none 25 [.sl (c.Laws.map Law.av), .sl (c.Stills.map Still.av)]]) (obs := []) (by kernel_rfl) (trivial) fun ac wd hS => ?_
          rw [show (.tup [.int .i64 (lastR c homes l id day).1, .int .i64 (lastR c homes l id day).2] : AV) = .tup [.int .i64 0, .int .i64 6] from by have hfe' := hfe.symm; simp only [lastR, hfe', hat1.2, hb1, hb2, Bool.and_true, Bool.true_and, Bool.and_false, Bool.false_and, Bool.or_true, Bool.true_or, Bool.or_false, Bool.false_or, Bool.not_true, Bool.not_false, Bool.false_eq_true, if_true, if_false]]
          exact retz Tryz.func16 rfl hB hBd hS (by kernel_rfl) rfl
        · skip
          refine reg [(2, .av (.int .i64 (atI facts id)))] [1, 5, 13, 15] hG hS (env := [(1, .sl (homes.map Home.av)), (5, .box 0 0), (13, .sl (facts.map Report.av)), (15, .int .i64 (atI facts id))]) (own := [.box none 25 [.sl (c.Laws.map Law.av), .sl (c.Stills.map Still.av)]]) (obs := [CallA Tryz.prog GT 48 [.sl (facts.map Report.av), .int .i64 id] (.int .i64 (atI facts id))]) (by kernel_rfl) ((at_ok _ _ hf)) fun ac wd hS => ?_
          refine runs_seq ?_
          refine runs_seq ?_
          refine reg [(1, .dec false)] [1, 5, 13, 15, 38] hG hS (env := [(1, .sl (homes.map Home.av)), (5, .box 0 0), (13, .sl (facts.map Report.av)), (15, .int .i64 (atI facts id)), (38, .bool false)]) (own := [.box none 25 [.sl (c.Laws.map Law.av), .sl (c.Stills.map Still.av)]]) (obs := [decide ((atI facts id) < 0) = false]) (by kernel_rfl) ((at_lt1 hat1a)) fun ac wd hS => ?_
          refine cond_no hS (c := false) (by kernel_rfl) rfl ?_
          refine runs_skip ?_
          refine runs_seq ?_
          refine drw [(5, .av (Report.av q1)), (7, .av (.tup [.int .i64 ((lastRef c homes facts q1).getD 0), .bool ((lastRef c homes facts q1).isSome)]))] [16, 17] hG hS (env := [(16, .int .i64 ((lastRef c homes facts q1).getD 0)), (17, .bool ((lastRef c homes facts q1).isSome))]) (own := [.box none 25 [.sl (c.Laws.map Law.av), .sl (c.Stills.map Still.av)]]) (obs := [0 ≤ (atI facts id : Int) ∧ (facts.map Report.av)[(atI facts id : Int).toNat]? = some (Report.av q1), CallA Tryz.prog GT 49 [Code.av c, .sl (homes.map Home.av), .sl (facts.map Report.av), Report.av q1] (.tup [.int .i64 ((lastRef c homes facts q1).getD 0), .bool ((lastRef c homes facts q1).isSome)])]) (by kernel_rfl) (by kernel_rfl) (⟨(at_idx hat1a hat1b), (lastRef_ok' _ _ _ _ hc1 hh hf)⟩) fun ac wd hS => ?_
          refine runs_seq ?_
          refine runs_seq ?_
          rcases Bool.eq_false_or_eq_true ((lastRef c homes facts q1).isSome) with hb3 | hb3
          · skip
            refine reg [(1, .dec false)] [16, 51] hG hS (env := [(16, .int .i64 ((lastRef c homes facts q1).getD 0)), (51, .bool false)]) (own := [.box none 25 [.sl (c.Laws.map Law.av), .sl (c.Stills.map Still.av)]]) (obs := [(!(lastRef c homes facts q1).isSome) = false]) (by kernel_rfl) (by rw [hb3]; rfl) fun ac wd hS => ?_
            refine cond_no hS (c := false) (by kernel_rfl) rfl ?_
            refine runs_skip ?_
            refine runs_seq ?_
            refine reg [] [10, 11] hG hS (env := [(10, .int .i64 ((lastRef c homes facts q1).getD 0)), (11, .int .i64 0)]) (own := [.box none 25 [.sl (c.Laws.map Law.av), .sl (c.Stills.map Still.av)]]) (obs := []) (by kernel_rfl) (trivial) fun ac wd hS => ?_
            rw [show (.tup [.int .i64 (lastR c homes l id day).1, .int .i64 (lastR c homes l id day).2] : AV) = .tup [.int .i64 ((lastRef c homes facts q1).getD 0), .int .i64 0] from by have hfe' := hfe.symm; simp only [lastR, hfe', hat1c, hb1, hb2, hb3, Bool.and_true, Bool.true_and, Bool.and_false, Bool.false_and, Bool.or_true, Bool.true_or, Bool.or_false, Bool.false_or, Bool.not_true, Bool.not_false, Bool.false_eq_true, if_true, if_false]]
            exact retz Tryz.func16 rfl hB hBd hS (by kernel_rfl) rfl
          · skip
            refine reg [(1, .dec true)] [16, 51] hG hS (env := [(16, .int .i64 ((lastRef c homes facts q1).getD 0)), (51, .bool true)]) (own := [.box none 25 [.sl (c.Laws.map Law.av), .sl (c.Stills.map Still.av)]]) (obs := [(!(lastRef c homes facts q1).isSome) = true]) (by kernel_rfl) (by rw [hb3]; rfl) fun ac wd hS => ?_
            refine cond_yes hS (c := true) (by kernel_rfl) rfl ?_
            refine runs_seq ?_
            refine reg [] [10, 11] hG hS (env := [(10, .int .i64 0), (11, .int .i64 6)]) (own := [.box none 25 [.sl (c.Laws.map Law.av), .sl (c.Stills.map Still.av)]]) (obs := []) (by kernel_rfl) (trivial) fun ac wd hS => ?_
            rw [show (.tup [.int .i64 (lastR c homes l id day).1, .int .i64 (lastR c homes l id day).2] : AV) = .tup [.int .i64 0, .int .i64 6] from by have hfe' := hfe.symm; simp only [lastR, hfe', hat1c, hb1, hb2, hb3, Bool.and_true, Bool.true_and, Bool.and_false, Bool.false_and, Bool.or_true, Bool.true_or, Bool.or_false, Bool.false_or, Bool.not_true, Bool.not_false, Bool.false_eq_true, if_true, if_false]]
            exact retz Tryz.func16 rfl hB hBd hS (by kernel_rfl) rfl
    · skip
      refine reg [(1, .av (.bool (within day 0 100000))), (2, .dec true)] [1, 2, 3, 4, 5, 27] hG hS (env := [(1, .sl (homes.map Home.av)), (2, .sl (l.map Report.av)), (3, .int .i64 id), (4, .int .i64 day), (5, .box 0 0), (27, .bool true)]) (own := [.box none 25 [.sl (c.Laws.map Law.av), .sl (c.Stills.map Still.av)]]) (obs := [CallA Tryz.prog GT 46 [.int .i64 day, .int .i64 0, .int .i64 100000] (.bool (within day 0 100000)), (!within day 0 100000) = true]) (by kernel_rfl) (⟨(within_ok46 _ _ _), by rw [hb2]; rfl⟩) fun ac wd hS => ?_
      refine cond_yes hS (c := true) (by kernel_rfl) rfl ?_
      refine runs_seq ?_
      refine reg [] [10, 11] hG hS (env := [(10, .int .i64 0), (11, .int .i64 2)]) (own := [.box none 25 [.sl (c.Laws.map Law.av), .sl (c.Stills.map Still.av)]]) (obs := []) (by kernel_rfl) (trivial) fun ac wd hS => ?_
      rw [show (.tup [.int .i64 (lastR c homes l id day).1, .int .i64 (lastR c homes l id day).2] : AV) = .tup [.int .i64 0, .int .i64 2] from by simp only [lastR, hb1, hb2, Bool.and_true, Bool.true_and, Bool.and_false, Bool.false_and, Bool.or_true, Bool.true_or, Bool.or_false, Bool.false_or, Bool.not_true, Bool.not_false, Bool.false_eq_true, if_true, if_false]]
      exact retz Tryz.func16 rfl hB hBd hS (by kernel_rfl) rfl
def goneStep (c : Code) (homes : List Home) (facts : List Report) (day : Int) (out : List Int) (x : Report) : List Int := if decide (x.About ≤ day) && !shownRefB c homes facts x day then insL out x.Id else out
def goneF (c : Code) (homes : List Home) (facts : List Report) (day : Int) : List Int := facts.foldl (goneStep c homes facts day) []
def goneR (c : Code) (homes : List Home) (l : List Report) (day : Int) : List Int × Int :=
  if (askedI c homes l != 0) then ([], askedI c homes l) else if !within day 0 100000 then ([], 2) else (goneF c homes (factsL l day) day, 0)
theorem goneRef_call (c : Code) (homes : List Home) (l : List Report) (day : Int) (hc1 : c.Laws.length ≤ 65536) (hc2 : c.Stills.length ≤ 65536) (hh : homes.length ≤ 65536) (hn : l.length ≤ 65536) : CallA Tryz.prog GT 18 [Code.av c, .sl (homes.map Home.av), .sl (l.map Report.av), .int .i64 day] (.tup [.sl ((goneR c homes l day).1.map ia), .int .i64 (goneR c homes l day).2]) := by
  refine callA_of Tryz.func18 rfl (by simp [Tryz.f18]) rfl fun B ac hB hBd hG hS => ?_
  refine runs_seq ?_
  refine reg [] [1, 2, 3, 4] hG hS (env := [(1, .sl (homes.map Home.av)), (2, .sl (l.map Report.av)), (3, .int .i64 day), (4, .box 0 0)]) (own := [.box none 25 [.sl (c.Laws.map Law.av), .sl (c.Stills.map Still.av)]]) (obs := []) (by kernel_rfl) (trivial) fun ac wd hS => ?_
  refine runs_seq ?_
  refine runs_seq ?_
  refine reg [(3, .av (.int .i64 (askedI c homes l)))] [1, 2, 3, 4, 10] hG hS (env := [(1, .sl (homes.map Home.av)), (2, .sl (l.map Report.av)), (3, .int .i64 day), (4, .box 0 0), (10, .int .i64 (askedI c homes l))]) (own := [.box none 25 [.sl (c.Laws.map Law.av), .sl (c.Stills.map Still.av)]]) (obs := [CallA Tryz.prog GT 45 [Code.av c, .sl (homes.map Home.av), .sl (l.map Report.av)] (.int .i64 (askedI c homes l))]) (by kernel_rfl) ((asked_ok _ _ _ hc1 hc2 hh hn)) fun ac wd hS => ?_
  refine runs_seq ?_
  rcases Bool.eq_false_or_eq_true (((askedI c homes l) != 0)) with hb1 | hb1
  · skip
    refine reg [(1, .dec true)] [1, 2, 3, 4, 10, 20] hG hS (env := [(1, .sl (homes.map Home.av)), (2, .sl (l.map Report.av)), (3, .int .i64 day), (4, .box 0 0), (10, .int .i64 (askedI c homes l)), (20, .bool true)]) (own := [.box none 25 [.sl (c.Laws.map Law.av), .sl (c.Stills.map Still.av)]]) (obs := [((askedI c homes l) != 0) = true]) (by kernel_rfl) (hb1) fun ac wd hS => ?_
    refine cond_yes hS (c := true) (by kernel_rfl) rfl ?_
    refine runs_seq ?_
    refine reg [] [8, 9] hG hS (env := [(8, .nsl), (9, .int .i64 (askedI c homes l))]) (own := [.box none 25 [.sl (c.Laws.map Law.av), .sl (c.Stills.map Still.av)]]) (obs := []) (by kernel_rfl) (trivial) fun ac wd hS => ?_
    rw [show (.tup [.sl ((goneR c homes l day).1.map ia), .int .i64 (goneR c homes l day).2] : AV) = .tup [.sl [], .int .i64 (askedI c homes l)] from by simp only [goneR, hb1, Bool.and_true, Bool.true_and, Bool.and_false, Bool.false_and, Bool.or_true, Bool.true_or, Bool.or_false, Bool.false_or, Bool.not_true, Bool.not_false, Bool.false_eq_true, if_true, if_false]; rfl]
    exact retz Tryz.func18 rfl hB hBd hS (by kernel_rfl) rfl
  · skip
    refine reg [(1, .dec false)] [1, 2, 3, 4, 10, 20] hG hS (env := [(1, .sl (homes.map Home.av)), (2, .sl (l.map Report.av)), (3, .int .i64 day), (4, .box 0 0), (10, .int .i64 (askedI c homes l)), (20, .bool false)]) (own := [.box none 25 [.sl (c.Laws.map Law.av), .sl (c.Stills.map Still.av)]]) (obs := [((askedI c homes l) != 0) = false]) (by kernel_rfl) (hb1) fun ac wd hS => ?_
    refine cond_no hS (c := false) (by kernel_rfl) rfl ?_
    refine runs_skip ?_
    refine runs_seq ?_
    refine runs_seq ?_
    rcases Bool.eq_false_or_eq_true (within day 0 100000) with hb2 | hb2
    · skip
      refine reg [(1, .av (.bool (within day 0 100000))), (2, .dec false)] [1, 2, 3, 4, 24] hG hS (env := [(1, .sl (homes.map Home.av)), (2, .sl (l.map Report.av)), (3, .int .i64 day), (4, .box 0 0), (24, .bool false)]) (own := [.box none 25 [.sl (c.Laws.map Law.av), .sl (c.Stills.map Still.av)]]) (obs := [CallA Tryz.prog GT 46 [.int .i64 day, .int .i64 0, .int .i64 100000] (.bool (within day 0 100000)), (!within day 0 100000) = false]) (by kernel_rfl) (⟨(within_ok46 _ _ _), by rw [hb2]; rfl⟩) fun ac wd hS => ?_
      refine cond_no hS (c := false) (by kernel_rfl) rfl ?_
      refine runs_skip ?_
      refine runs_seq ?_
      rcases (⟨factsL l day, rfl, (asked_fine hb1).1, by have := (asked_fine hb1).1.flen day; omega⟩ : ∃ f, f = factsL l day ∧ Fine l ∧ f.length ≤ 65536) with ⟨facts, hfe, hfine, hf⟩
      · skip
        refine reg [(2, .av (.tup [.sl (facts.map Report.av), .int .i64 0]))] [1, 3, 4, 11] hG hS (env := [(1, .sl (homes.map Home.av)), (3, .int .i64 day), (4, .box 0 0), (11, .sl (facts.map Report.av))]) (own := [.box none 25 [.sl (c.Laws.map Law.av), .sl (c.Stills.map Still.av)]]) (obs := [CallA Tryz.prog GT 47 [.sl (l.map Report.av), .int .i64 day] (.tup [.sl (facts.map Report.av), .int .i64 0])]) (by kernel_rfl) ((by rw [hfe]; exact standRef_ok _ _ hfine hb2)) fun ac wd hS => ?_
        refine runs_seq ?_
        refine reg [(0, .row 3 1)] [1, 3, 4, 11, 13] hG hS (env := [(1, .sl (homes.map Home.av)), (3, .int .i64 day), (4, .box 0 0), (11, .sl (facts.map Report.av)), (13, .osl 1)]) (own := [.box none 25 [.sl (c.Laws.map Law.av), .sl (c.Stills.map Still.av)], .row 3 1 []]) (obs := []) (by kernel_rfl) (trivial) fun ac wd hS => ?_
        refine runs_seq ?_
        refine runs_seq ?_
        refine reg [] [1, 3, 4, 11, 13, 14] hG hS (env := [(1, .sl (homes.map Home.av)), (3, .int .i64 day), (4, .box 0 0), (11, .sl (facts.map Report.av)), (13, .osl 1), (14, .int .i64 0)]) (own := [.box none 25 [.sl (c.Laws.map Law.av), .sl (c.Stills.map Still.av)], .row 3 1 []]) (obs := []) (by kernel_rfl) (trivial) fun ac wd hS => ?_
        refine runs_block ?_
        refine runs_loop ?_
        have hinv : ∃ (pre rest : List Report) (out : List Int), facts = pre ++ rest ∧ (goneF c homes facts day = rest.foldl (goneStep c homes facts day) out) ∧ (out.length ≤ pre.length ∧ facts.length ≤ 60) ∧ Sat B ⟨Tryz.f18.ntmps, [(1, .sl (homes.map Home.av)), (3, .int .i64 day), (4, .box 0 0), (11, .sl (facts.map Report.av)), (13, .osl 1), (14, .int .i64 ((pre.length : Nat) : Int))], [.box none 25 [.sl (c.Laws.map Law.av), .sl (c.Stills.map Still.av)], .row 3 1 (out.map ia)]⟩ ac wd := ⟨[], facts, [], rfl, rfl, ⟨by simp, by rw [hfe]; exact hfine.flen _⟩, hS.sel [0, 1] [1, 3, 4, 11, 13, 14] (by kernel_rfl)⟩
        clear hS
        obtain ⟨pre, rest, out, hl, hr, hlen, hS⟩ := hinv
        induction rest generalizing pre out ac wd with
        | nil =>
          refine runs_seq ?_
          refine runs_seq ?_
          refine reg [(2, .is ((facts.length : Nat) : Int)), (3, .dec false)] [1, 3, 4, 11, 13, 14, 34] hG hS (env := [(1, .sl (homes.map Home.av)), (3, .int .i64 day), (4, .box 0 0), (11, .sl (facts.map Report.av)), (13, .osl 1), (14, .int .i64 ((pre.length : Nat) : Int)), (34, .bool false)]) (own := [.box none 25 [.sl (c.Laws.map Law.av), .sl (c.Stills.map Still.av)], .row 3 1 (out.map ia)]) (obs := [((facts.map Report.av).length : Int) = ((facts.length : Nat) : Int), decide (((pre.length : Nat) : Int) < ((facts.length : Nat) : Int)) = false]) (by kernel_rfl) (⟨len_map, (lt_no hl)⟩) fun ac wd hS => ?_
          refine cond_no hS (c := false) (by kernel_rfl) rfl ?_
          refine runs_exit (by rfl) ?_
          refine runs_seq ?_
          refine reg [] [8, 9] hG hS (env := [(8, .osl 1), (9, .int .i64 0)]) (own := [.box none 25 [.sl (c.Laws.map Law.av), .sl (c.Stills.map Still.av)], .row 3 1 (out.map ia)]) (obs := []) (by kernel_rfl) (trivial) fun ac wd hS => ?_
          rw [show (.tup [.sl ((goneR c homes l day).1.map ia), .int .i64 (goneR c homes l day).2] : AV) = .tup [.sl (out.map ia), .int .i64 0] from by have hfe' := hfe.symm; simp only [goneR, hfe', hb1, hb2, Bool.and_true, Bool.true_and, Bool.and_false, Bool.false_and, Bool.or_true, Bool.true_or, Bool.or_false, Bool.false_or, Bool.not_true, Bool.not_false, Bool.false_eq_true, if_true, if_false, hr, List.foldl_nil]]
          exact retz Tryz.func18 rfl hB hBd hS (by kernel_rfl) rfl
        | cons x rest ihx =>
          refine runs_seq ?_
          refine runs_seq ?_
          refine reg [(2, .is ((facts.length : Nat) : Int)), (3, .dec true)] [1, 3, 4, 11, 13, 14, 34] hG hS (env := [(1, .sl (homes.map Home.av)), (3, .int .i64 day), (4, .box 0 0), (11, .sl (facts.map Report.av)), (13, .osl 1), (14, .int .i64 ((pre.length : Nat) : Int)), (34, .bool true)]) (own := [.box none 25 [.sl (c.Laws.map Law.av), .sl (c.Stills.map Still.av)], .row 3 1 (out.map ia)]) (obs := [((facts.map Report.av).length : Int) = ((facts.length : Nat) : Int), decide (((pre.length : Nat) : Int) < ((facts.length : Nat) : Int)) = true]) (by kernel_rfl) (⟨len_map, (lt_yes hl)⟩) fun ac wd hS => ?_
          refine cond_yes hS (c := true) (by kernel_rfl) rfl ?_
          refine runs_skip ?_
          refine runs_seq ?_
          refine runs_block ?_
          refine runs_seq ?_
          rcases Bool.eq_false_or_eq_true (decide (x.About ≤ day)) with hb3 | hb3
          · skip
            rcases Bool.eq_false_or_eq_true (shownRefB c homes facts x day) with hb4 | hb4
            · skip
              refine drw [(2, .av (Report.av x)), (7, .dec true), (13, .av (Report.av x)), (16, .av (.bool (shownRefB c homes facts x day))), (18, .dec false)] [1, 3, 4, 11, 13, 14, 55] hG hS (env := [(1, .sl (homes.map Home.av)), (3, .int .i64 day), (4, .box 0 0), (11, .sl (facts.map Report.av)), (13, .osl 1), (14, .int .i64 ((pre.length : Nat) : Int)), (55, .bool false)]) (own := [.box none 25 [.sl (c.Laws.map Law.av), .sl (c.Stills.map Still.av)], .row 3 1 (out.map ia)]) (obs := [0 ≤ (((pre.length : Nat) : Int) : Int) ∧ (facts.map Report.av)[(((pre.length : Nat) : Int) : Int).toNat]? = some (Report.av x), decide (x.About ≤ day) = true, 0 ≤ (((pre.length : Nat) : Int) : Int) ∧ (facts.map Report.av)[(((pre.length : Nat) : Int) : Int).toNat]? = some (Report.av x), CallA Tryz.prog GT 52 [Code.av c, .sl (homes.map Home.av), .sl (facts.map Report.av), Report.av x, .int .i64 day] (.bool (shownRefB c homes facts x day)), (!shownRefB c homes facts x day) = false]) (by kernel_rfl) (by kernel_rfl) (⟨(idx_ok hl), hb3, (idx_ok hl), (shownRef_ok _ _ _ _ _ hc1 hh hf), by rw [hb4]; rfl⟩) fun ac wd hS => ?_
              refine cond_no hS (c := false) (by kernel_rfl) rfl ?_
              refine runs_skip ?_
              refine runs_inBlock ?_
              refine reg [(1, .is (((pre ++ [x]).length : Nat) : Int))] [1, 3, 4, 11, 13, 14] hG hS (env := [(1, .sl (homes.map Home.av)), (3, .int .i64 day), (4, .box 0 0), (11, .sl (facts.map Report.av)), (13, .osl 1), (14, .int .i64 (((pre ++ [x]).length : Nat) : Int))]) (own := [.box none 25 [.sl (c.Laws.map Law.av), .sl (c.Stills.map Still.av)], .row 3 1 (out.map ia)]) (obs := [IntKind.i64.wrap (((pre.length : Nat) : Int) + 1) = (((pre ++ [x]).length : Nat) : Int)]) (by kernel_rfl) ((next_len hl hf)) fun ac wd hS => ?_
              refine runs_inLoop ?_
              exact ihx _ _ (pre ++ [x]) out (next_eq hl) (by rw [hr]; simp only [List.foldl_cons, goneStep, hb3, hb4, Bool.and_true, Bool.true_and, Bool.and_false, Bool.false_and, Bool.or_true, Bool.true_or, Bool.or_false, Bool.false_or, Bool.not_true, Bool.not_false, Bool.false_eq_true, if_true, if_false]) (by have h9 := congrArg List.length hl; simp at h9; constructor <;> (try simp [insL_len]) <;> omega) (hS.sel [0, 1] [1, 3, 4, 11, 13, 14] (by kernel_rfl))
            · skip
              refine drw [(2, .av (Report.av x)), (7, .dec true), (13, .av (Report.av x)), (16, .av (.bool (shownRefB c homes facts x day))), (18, .dec true)] [1, 3, 4, 11, 13, 14, 55] hG hS (env := [(1, .sl (homes.map Home.av)), (3, .int .i64 day), (4, .box 0 0), (11, .sl (facts.map Report.av)), (13, .osl 1), (14, .int .i64 ((pre.length : Nat) : Int)), (55, .bool true)]) (own := [.box none 25 [.sl (c.Laws.map Law.av), .sl (c.Stills.map Still.av)], .row 3 1 (out.map ia)]) (obs := [0 ≤ (((pre.length : Nat) : Int) : Int) ∧ (facts.map Report.av)[(((pre.length : Nat) : Int) : Int).toNat]? = some (Report.av x), decide (x.About ≤ day) = true, 0 ≤ (((pre.length : Nat) : Int) : Int) ∧ (facts.map Report.av)[(((pre.length : Nat) : Int) : Int).toNat]? = some (Report.av x), CallA Tryz.prog GT 52 [Code.av c, .sl (homes.map Home.av), .sl (facts.map Report.av), Report.av x, .int .i64 day] (.bool (shownRefB c homes facts x day)), (!shownRefB c homes facts x day) = true]) (by kernel_rfl) (by kernel_rfl) (⟨(idx_ok hl), hb3, (idx_ok hl), (shownRef_ok _ _ _ _ _ hc1 hh hf), by rw [hb4]; rfl⟩) fun ac wd hS => ?_
              refine cond_yes hS (c := true) (by kernel_rfl) rfl ?_
              refine reg [(3, .av (Report.av x)), (6, .opn (.osl 2) [.box none 25 [.sl (c.Laws.map Law.av), .sl (c.Stills.map Still.av)], .gone, .row 3 1 ((insL out x.Id).map ia)])] [1, 3, 4, 11, 13, 14] hG hS (env := [(1, .sl (homes.map Home.av)), (3, .int .i64 day), (4, .box 0 0), (11, .sl (facts.map Report.av)), (13, .osl 2), (14, .int .i64 ((pre.length : Nat) : Int))]) (own := [.box none 25 [.sl (c.Laws.map Law.av), .sl (c.Stills.map Still.av)], .gone, .row 3 1 ((insL out x.Id).map ia)]) (obs := [0 ≤ (((pre.length : Nat) : Int) : Int) ∧ (facts.map Report.av)[(((pre.length : Nat) : Int) : Int).toNat]? = some (Report.av x), CallO Tryz.prog GT 53 [.osl 1, .int .i64 x.Id] [.box none 25 [.sl (c.Laws.map Law.av), .sl (c.Stills.map Still.av)], .row 3 1 (out.map ia)] (.osl 2) [.box none 25 [.sl (c.Laws.map Law.av), .sl (c.Stills.map Still.av)], .gone, .row 3 1 ((insL out x.Id).map ia)]]) (by kernel_rfl) (⟨(idx_ok hl), (callO_row (put_ok53 out x.Id (by have h9 := congrArg List.length hl; simp at h9; omega)) rfl rfl)⟩) fun ac wd hS => ?_
              refine runs_inBlock ?_
              refine reg [(1, .is (((pre ++ [x]).length : Nat) : Int))] [1, 3, 4, 11, 13, 14] hG hS (env := [(1, .sl (homes.map Home.av)), (3, .int .i64 day), (4, .box 0 0), (11, .sl (facts.map Report.av)), (13, .osl 2), (14, .int .i64 (((pre ++ [x]).length : Nat) : Int))]) (own := [.box none 25 [.sl (c.Laws.map Law.av), .sl (c.Stills.map Still.av)], .gone, .row 3 1 ((insL out x.Id).map ia)]) (obs := [IntKind.i64.wrap (((pre.length : Nat) : Int) + 1) = (((pre ++ [x]).length : Nat) : Int)]) (by kernel_rfl) ((next_len hl hf)) fun ac wd hS => ?_
              refine runs_inLoop ?_
              exact ihx _ _ (pre ++ [x]) (insL out x.Id) (next_eq hl) (by rw [hr]; simp only [List.foldl_cons, goneStep, hb3, hb4, Bool.and_true, Bool.true_and, Bool.and_false, Bool.false_and, Bool.or_true, Bool.true_or, Bool.or_false, Bool.false_or, Bool.not_true, Bool.not_false, Bool.false_eq_true, if_true, if_false]) (by have h9 := congrArg List.length hl; simp at h9; constructor <;> (try simp [insL_len]) <;> omega) (hS.sel [0, 2] [1, 3, 4, 11, 13, 14] (by kernel_rfl))
          · skip
            refine drw [(2, .av (Report.av x)), (7, .dec false)] [1, 3, 4, 11, 13, 14, 55] hG hS (env := [(1, .sl (homes.map Home.av)), (3, .int .i64 day), (4, .box 0 0), (11, .sl (facts.map Report.av)), (13, .osl 1), (14, .int .i64 ((pre.length : Nat) : Int)), (55, .bool false)]) (own := [.box none 25 [.sl (c.Laws.map Law.av), .sl (c.Stills.map Still.av)], .row 3 1 (out.map ia)]) (obs := [0 ≤ (((pre.length : Nat) : Int) : Int) ∧ (facts.map Report.av)[(((pre.length : Nat) : Int) : Int).toNat]? = some (Report.av x), decide (x.About ≤ day) = false]) (by kernel_rfl) (by kernel_rfl) (⟨(idx_ok hl), hb3⟩) fun ac wd hS => ?_
            refine cond_no hS (c := false) (by kernel_rfl) rfl ?_
            refine runs_skip ?_
            refine runs_inBlock ?_
            refine reg [(1, .is (((pre ++ [x]).length : Nat) : Int))] [1, 3, 4, 11, 13, 14] hG hS (env := [(1, .sl (homes.map Home.av)), (3, .int .i64 day), (4, .box 0 0), (11, .sl (facts.map Report.av)), (13, .osl 1), (14, .int .i64 (((pre ++ [x]).length : Nat) : Int))]) (own := [.box none 25 [.sl (c.Laws.map Law.av), .sl (c.Stills.map Still.av)], .row 3 1 (out.map ia)]) (obs := [IntKind.i64.wrap (((pre.length : Nat) : Int) + 1) = (((pre ++ [x]).length : Nat) : Int)]) (by kernel_rfl) ((next_len hl hf)) fun ac wd hS => ?_
            refine runs_inLoop ?_
            exact ihx _ _ (pre ++ [x]) out (next_eq hl) (by rw [hr]; simp only [List.foldl_cons, goneStep, hb3, Bool.and_true, Bool.true_and, Bool.and_false, Bool.false_and, Bool.or_true, Bool.true_or, Bool.or_false, Bool.false_or, Bool.not_true, Bool.not_false, Bool.false_eq_true, if_true, if_false]) (by have h9 := congrArg List.length hl; simp at h9; constructor <;> (try simp [insL_len]) <;> omega) (hS.sel [0, 1] [1, 3, 4, 11, 13, 14] (by kernel_rfl))
    · skip
      refine reg [(1, .av (.bool (within day 0 100000))), (2, .dec true)] [1, 2, 3, 4, 24] hG hS (env := [(1, .sl (homes.map Home.av)), (2, .sl (l.map Report.av)), (3, .int .i64 day), (4, .box 0 0), (24, .bool true)]) (own := [.box none 25 [.sl (c.Laws.map Law.av), .sl (c.Stills.map Still.av)]]) (obs := [CallA Tryz.prog GT 46 [.int .i64 day, .int .i64 0, .int .i64 100000] (.bool (within day 0 100000)), (!within day 0 100000) = true]) (by kernel_rfl) (⟨(within_ok46 _ _ _), by rw [hb2]; rfl⟩) fun ac wd hS => ?_
      refine cond_yes hS (c := true) (by kernel_rfl) rfl ?_
      refine runs_seq ?_
      refine reg [] [8, 9] hG hS (env := [(8, .nsl), (9, .int .i64 2)]) (own := [.box none 25 [.sl (c.Laws.map Law.av), .sl (c.Stills.map Still.av)]]) (obs := []) (by kernel_rfl) (trivial) fun ac wd hS => ?_
      rw [show (.tup [.sl ((goneR c homes l day).1.map ia), .int .i64 (goneR c homes l day).2] : AV) = .tup [.sl [], .int .i64 2] from by simp only [goneR, hb1, hb2, Bool.and_true, Bool.true_and, Bool.and_false, Bool.false_and, Bool.or_true, Bool.true_or, Bool.or_false, Bool.false_or, Bool.not_true, Bool.not_false, Bool.false_eq_true, if_true, if_false]; rfl]
      exact retz Tryz.func18 rfl hB hBd hS (by kernel_rfl) rfl
theorem app_allL {l : List Law} (h : l.length ≤ 60000) : AppOK 4 [] (l.map Law.av) := ⟨by simp; omega, fun e he => by obtain ⟨r, _, rfl⟩ := List.mem_map.1 he; exact ⟨rfl, rfl⟩⟩
theorem app_allS {l : List Still} (h : l.length ≤ 60000) : AppOK 3 [] (l.map Still.av) := ⟨by simp; omega, fun e he => by obtain ⟨r, _, rfl⟩ := List.mem_map.1 he; exact ⟨rfl, rfl⟩⟩
theorem twin_ok (c : Code) (hc1 : c.Laws.length ≤ 60000) (hc2 : c.Stills.length ≤ 60000) : CallA Tryz.prog GT 14 [Code.av c] (Code.av c) := by
  refine callA_of Tryz.func14 rfl (by simp [Tryz.f14]) rfl fun B ac hB hBd hG hS => ?_
  refine runs_seq ?_
  refine reg [] [1, 2] hG hS (env := [(1, .box 0 0), (2, .box 1 0)]) (own := [.box none 25 [.sl (c.Laws.map Law.av), .sl (c.Stills.map Still.av)], .box none 25 [.nsl, .nsl]]) (obs := []) (by kernel_rfl) (trivial) fun ac wd hS => ?_
  refine runs_seq ?_
  refine reg [(0, .own), (3, .lst (c.Laws.map Law.av))] [1, 2] hG hS (env := [(1, .box 0 0), (2, .box 1 0)]) (own := [.box none 25 [.osl 3, .sl (c.Stills.map Still.av)], .box none 25 [.nsl, .nsl], .gone, .row 66 4 (c.Laws.map Law.av)]) (obs := [AppOK 4 [] (c.Laws.map Law.av) ∧ c.Laws.map Law.av = [] ++ (c.Laws.map Law.av)]) (by kernel_rfl) (⟨(app_allL (by omega)), rfl⟩) fun ac wd hS => ?_
  refine runs_seq ?_
  refine reg [(0, .own), (3, .lst (c.Stills.map Still.av))] [1, 2] hG hS (env := [(1, .box 0 0), (2, .box 1 0)]) (own := [.box none 25 [.osl 3, .osl 5], .box none 25 [.nsl, .nsl], .gone, .row 66 4 (c.Laws.map Law.av), .gone, .row 91 3 (c.Stills.map Still.av)]) (obs := [AppOK 3 [] (c.Stills.map Still.av) ∧ c.Stills.map Still.av = [] ++ (c.Stills.map Still.av)]) (by kernel_rfl) (⟨(app_allS (by omega)), rfl⟩) fun ac wd hS => ?_
  refine runs_seq ?_
  refine reg [] [2] hG hS (env := [(2, .box 1 0)]) (own := [.box none 25 [.osl 3, .osl 5], .box none 25 [.osl 3, .osl 5], .gone, .row 66 4 (c.Laws.map Law.av), .gone, .row 91 3 (c.Stills.map Still.av)]) (obs := []) (by kernel_rfl) (trivial) fun ac wd hS => ?_
  rw [show (Code.av c : AV) = .agg [.sl (c.Laws.map Law.av), .sl (c.Stills.map Still.av)] from rfl]
  exact retz Tryz.func14 rfl hB hBd hS (by kernel_rfl) rfl
end Go.Fw

set_option maxRecDepth 20000
namespace Go.Fw
open Go.Proofs

end Go.Fw

set_option maxRecDepth 20000
namespace Go.Fw
open Go.Proofs

theorem keyI (n : Int) : KeyOf Tryz.prog 3 (ia n) := .inl ⟨.i64, n, by kernel_rfl, rfl⟩
theorem ia_inj {m n : Int} : ia m = ia n ↔ m = n := by simp [ia]
section
variable {α : Type}
def findK (kf : α → Int) (L : List α) (n : Int) : Option α := L.find? fun a => kf a == n
theorem keysI (kf : α → Int) (L : List α) : ∀ k ∈ L.map (fun a => ia (kf a)), KeyOf Tryz.prog 3 k := by
  intro k hk; obtain ⟨a, _, rfl⟩ := List.mem_map.1 hk; exact keyI _
theorem nodupI {kf : α → Int} {L : List α} (h : (L.map kf).Nodup) : (L.map fun a => ia (kf a)).Nodup := by
  have : (L.map fun a => ia (kf a)) = (L.map kf).map ia := by simp
  rw [this]
  rw [List.nodup_iff_pairwise_ne] at h ⊢
  rw [List.pairwise_map]
  exact h.imp fun hne he => hne (ia_inj.1 he)
theorem notin_of {kf : α → Int} {L : List α} {n : Int} (h : findK kf L n = none) : ia n ∉ L.map (fun a => ia (kf a)) := by
  intro hm
  obtain ⟨a, ha, he⟩ := List.mem_map.1 hm
  have := List.find?_eq_none.1 h a ha
  simp only [ia_inj] at he
  simp [he] at this
theorem findK_mem {kf : α → Int} {L : List α} {n : Int} {a : α} (h : findK kf L n = some a) : a ∈ L ∧ kf a = n := by
  refine ⟨List.mem_of_find?_eq_some h, ?_⟩
  have := List.find?_some h
  simpa using this
theorem findK_of {kf : α → Int} {L : List α} (hn : (L.map kf).Nodup) {a : α} (ha : a ∈ L) : findK kf L (kf a) = some a := by
  induction L with
  | nil => simp at ha
  | cons x L ih =>
    simp only [List.map_cons, List.nodup_cons] at hn
    rcases List.mem_cons.1 ha with rfl | ha
    · simp [findK, List.find?]
    · have : kf x ≠ kf a := fun he => hn.1 (by rw [he]; exact List.mem_map_of_mem ha)
      have hx : (kf x == kf a) = false := by simpa using this
      have := ih hn.2 ha
      unfold findK at this ⊢
      rw [List.find?_cons, hx]; exact this
theorem look_some {kf : α → Int} {vf : α → AV} {L : List α} (hn : (L.map kf).Nodup) {n : Int} {a : α} (h : findK kf L n = some a) (z : AV) : LookOK Tryz.prog 3 (L.map fun a => ia (kf a)) (L.map vf) (ia n) (vf a) z true := by
  obtain ⟨h1, h2⟩ := findK_mem h
  refine ⟨keysI kf L, keyI n, nodupI hn, .inl ⟨rfl, ?_⟩⟩
  obtain ⟨j, hj⟩ := List.mem_iff_getElem?.1 h1
  refine List.mem_iff_getElem?.2 ⟨j, ?_⟩
  rw [List.getElem?_zip_eq_some]
  simp [hj, h2]
theorem look_none {kf : α → Int} {vf : α → AV} {L : List α} (hn : (L.map kf).Nodup) {n : Int} (h : findK kf L n = none) (z : AV) : LookOK Tryz.prog 3 (L.map fun a => ia (kf a)) (L.map vf) (ia n) z z false :=
  ⟨keysI kf L, keyI n, nodupI hn, .inr ⟨rfl, notin_of h, rfl⟩⟩
theorem put_new {kf : α → Int} {vf : α → AV} {L : List α} (hn : (L.map kf).Nodup) (a : α) (h : findK kf L (kf a) = none) : PutOK Tryz.prog 3 (L.map fun a => ia (kf a)) (L.map vf) (ia (kf a)) (vf a) ((L ++ [a]).map fun a => ia (kf a)) ((L ++ [a]).map vf) :=
  ⟨keysI kf L, keyI _, nodupI hn, .inl ⟨notin_of h, by simp, by simp⟩⟩
def setK (kf : α → Int) (L : List α) (a : α) : List α := L.map fun b => if kf b = kf a then a else b
theorem setK_keys (kf : α → Int) (L : List α) (a : α) : (setK kf L a).map kf = L.map kf := by
  simp only [setK, List.map_map]
  refine List.map_congr_left fun b _ => ?_
  simp only [Function.comp]
  split
  · rename_i h; exact h.symm
  · rfl
theorem setK_set {kf : α → Int} {L : List α} (hn : (L.map kf).Nodup) {j : Nat} {b a : α} (hj : L[j]? = some b) (hk : kf b = kf a) : setK kf L a = L.set j a := by
  apply List.ext_getElem?
  intro i
  simp only [setK, List.getElem?_map, List.getElem?_set]
  by_cases hij : j = i
  · subst hij; rw [hj]; simp [hk, (List.getElem?_eq_some_iff.1 hj).1]
  · rw [if_neg hij]
    cases hi : L[i]? with
    | none => rfl
    | some c =>
      simp only [Option.map_some, Option.some.injEq, ite_eq_right_iff]
      intro hc
      exact absurd (nodup_get hn (i := i) (j := j) (x := kf a) (by simp [hi, hc]) (by simp [hj, hk])) (Ne.symm hij)
theorem put_old {kf : α → Int} {vf : α → AV} {L : List α} (hn : (L.map kf).Nodup) (a : α) {b : α} (h : findK kf L (kf a) = some b) : PutOK Tryz.prog 3 (L.map fun a => ia (kf a)) (L.map vf) (ia (kf a)) (vf a) ((setK kf L a).map fun a => ia (kf a)) ((setK kf L a).map vf) := by
  obtain ⟨h1, h2⟩ := findK_mem h
  obtain ⟨j, hj⟩ := List.mem_iff_getElem?.1 h1
  refine ⟨keysI kf L, keyI _, nodupI hn, .inr ⟨j, by simp [hj, h2], ?_, ?_⟩⟩
  · have := congrArg (List.map ia) (setK_keys kf L a)
    simpa [List.map_map, Function.comp_def] using this
  · rw [setK_set hn hj h2, List.map_set]
def putK (kf : α → Int) (L : List α) (a : α) : List α := match findK kf L (kf a) with
  | none => L ++ [a]
  | some _ => setK kf L a
theorem put_any {kf : α → Int} {vf : α → AV} {L : List α} (hn : (L.map kf).Nodup) (a : α) : PutOK Tryz.prog 3 (L.map fun a => ia (kf a)) (L.map vf) (ia (kf a)) (vf a) ((putK kf L a).map fun a => ia (kf a)) ((putK kf L a).map vf) := by
  unfold putK
  cases h : findK kf L (kf a) with
  | none => exact put_new hn a h
  | some b => exact put_old hn a h
theorem putK_nodup {kf : α → Int} {L : List α} (hn : (L.map kf).Nodup) (a : α) : ((putK kf L a).map kf).Nodup := by
  unfold putK
  cases h : findK kf L (kf a) with
  | none =>
    simp only [List.map_append, List.map_cons, List.map_nil]
    refine List.nodup_append.2 ⟨hn, by simp, ?_⟩
    intro x hx y hy hxy
    simp only [List.mem_singleton] at hy
    obtain ⟨b, hb, rfl⟩ := List.mem_map.1 hx
    have := List.find?_eq_none.1 h b hb
    simp [hxy, hy] at this
  | some b => simp only; rw [setK_keys]; exact hn
theorem findK_put {kf : α → Int} {L : List α} (a : α) (n : Int) : findK kf (putK kf L a) n = if kf a = n then some a else findK kf L n := by
  have set : ∀ (L : List α), (∃ b, findK kf L (kf a) = some b) → findK kf (setK kf L a) n = if kf a = n then some a else findK kf L n := by
    intro L
    induction L with
    | nil => rintro ⟨b, hb⟩; simp [findK] at hb
    | cons x L ih =>
      rintro ⟨b, hb⟩
      simp only [findK, setK, List.map_cons, List.find?_cons] at hb ih ⊢
      by_cases hx : kf x = kf a
      · simp only [hx, if_true]
        by_cases hn : kf a = n
        · simp [hn]
        · have e1 : (kf a == n) = false := by simpa using hn
          simp only [e1, hn, if_false]
          by_cases h2 : ∃ b, List.find? (fun a_1 => kf a_1 == kf a) L = some b
          · rw [ih h2, if_neg hn]
          · have : List.find? (fun a_1 => kf a_1 == kf a) L = none := by
              cases h3 : List.find? (fun a_1 => kf a_1 == kf a) L with
              | none => rfl
              | some b => exact absurd ⟨b, h3⟩ h2
            have hall := List.find?_eq_none.1 this
            have : L.map (fun b => if kf b = kf a then a else b) = L := by
              conv => rhs; rw [← List.map_id L]
              refine List.map_congr_left fun b hb => ?_
              have := hall b hb
              rw [if_neg (by simpa using this)]; rfl
            rw [this]
      · have e0 : (kf x == kf a) = false := by simpa using hx
        rw [e0] at hb
        simp only [hx, if_false]
        by_cases hn : kf x = n
        · have : ¬ kf a = n := fun h => hx (hn.trans h.symm)
          simp [hn, this]
        · have e1 : (kf x == n) = false := by simpa using hn
          simp only [e1]
          exact ih ⟨b, hb⟩
  unfold putK
  cases h : findK kf L (kf a) with
  | none =>
    simp only [findK, List.find?_append]
    by_cases hn : kf a = n
    · subst hn
      have : List.find? (fun a_1 => kf a_1 == kf a) L = none := h
      simp [this]
    · have e1 : (kf a == n) = false := by simpa using hn
      simp [hn, List.find?, e1]
  | some b => exact set L ⟨b, h⟩
def delK (kf : α → Int) (L : List α) (n : Int) : List α := L.filter fun a => !(kf a == n)
theorem del_any {kf : α → Int} {vf : α → AV} {L : List α} (hn : (L.map kf).Nodup) (n : Int) : DelOK Tryz.prog 3 (L.map fun a => ia (kf a)) (L.map vf) (ia n) ((delK kf L n).map fun a => ia (kf a)) ((delK kf L n).map vf) := by
  refine ⟨keysI kf L, keyI n, nodupI hn, ?_⟩
  cases h : findK kf L n with
  | none =>
    have hall := List.find?_eq_none.1 h
    have : delK kf L n = L := List.filter_eq_self.2 fun a ha => by simpa using hall a ha
    exact .inl ⟨notin_of h, by rw [this], by rw [this]⟩
  | some b =>
    obtain ⟨h1, h2⟩ := findK_mem h
    obtain ⟨j, hj⟩ := List.mem_iff_getElem?.1 h1
    have hd : delK kf L n = L.eraseIdx j := by
      clear h
      induction L generalizing j with
      | nil => simp at hj
      | cons x L ih =>
        simp only [List.map_cons, List.nodup_cons] at hn
        cases j with
        | zero =>
          simp at hj; subst hj
          have e1 : (!(kf x == n)) = false := by simp [h2]
          simp only [delK, List.filter_cons, e1, Bool.false_eq_true, if_false, List.eraseIdx_cons_zero]
          refine List.filter_eq_self.2 fun a ha => ?_
          have : kf a ≠ n := fun he => hn.1 (by rw [h2, ← he]; exact List.mem_map_of_mem ha)
          simpa using this
        | succ j =>
          simp at hj
          have hm : b ∈ L := List.mem_of_getElem? hj
          have : kf x ≠ n := fun he => hn.1 (by rw [he, ← h2]; exact List.mem_map_of_mem hm)
          have e1 : (!(kf x == n)) = true := by simpa using this
          simp only [delK, List.filter_cons, e1, if_true, List.eraseIdx_cons_succ]
          congr 1
          exact ih hn.2 hm j hj
    refine .inr ⟨j, by simp [hj, h2], ?_, ?_⟩
    · rw [hd, map_eraseIdx]
    · rw [hd, map_eraseIdx]
end
def idk (r : Report) : AV := ia r.Id
def NodupR (K : List Report) : Prop := (K.map Report.Id).Nodup
def zeroR : Report := ⟨0, 0, 0, 0, 0, 0, 0, 0⟩
theorem getR_findK (K : List Report) (n : Int) : getR K n = findK Report.Id K n := rfl
theorem look_R {K : List Report} (hn : NodupR K) (n : Int) : LookOK Tryz.prog 3 (K.map idk) (K.map Report.av) (ia n) (Report.av ((getR K n).getD zeroR)) (Report.av zeroR) (getR K n).isSome := by
  rw [getR_findK]
  cases h : findK Report.Id K n with
  | none => exact look_none (vf := Report.av) hn h _
  | some q => exact look_some (vf := Report.av) hn h _
abbrev IM := List (Int × Int)
def k1 (p : Int × Int) : AV := ia p.1
def v1 (p : Int × Int) : AV := ia p.2
def NodupM (M : IM) : Prop := (M.map Prod.fst).Nodup
def getM (M : IM) (n : Int) : Option Int := (findK Prod.fst M n).map Prod.snd
def putM (M : IM) (n v : Int) : IM := putK Prod.fst M (n, v)
theorem look_M {M : IM} (hn : NodupM M) (n : Int) : LookOK Tryz.prog 3 (M.map k1) (M.map v1) (ia n) (ia ((getM M n).getD 0)) (ia 0) (getM M n).isSome := by
  unfold getM
  cases h : findK Prod.fst M n with
  | none => exact look_none (vf := v1) hn h _
  | some q => exact look_some (vf := v1) hn h _
theorem put_M {M : IM} (hn : NodupM M) (n v : Int) : PutOK Tryz.prog 3 (M.map k1) (M.map v1) (ia n) (ia v) ((putM M n v).map k1) ((putM M n v).map v1) := put_any (kf := Prod.fst) (vf := v1) hn (n, v)
theorem putM_nodup {M : IM} (hn : NodupM M) (n v : Int) : NodupM (putM M n v) := putK_nodup hn _
theorem getM_put (M : IM) (n v m : Int) : getM (putM M n v) m = if n = m then some v else getM M m := by
  unfold getM putM
  rw [findK_put]
  split <;> simp_all
theorem getM_mem {M : IM} (hn : NodupM M) (n v : Int) : getM M n = some v ↔ (n, v) ∈ M := by
  unfold getM
  constructor
  · intro h
    obtain ⟨p, hp, rfl⟩ := Option.map_eq_some_iff.1 h
    obtain ⟨h1, h2⟩ := findK_mem hp
    rw [← h2]; exact h1
  · intro h
    have := findK_of (kf := Prod.fst) hn h
    rw [this]; rfl
theorem perm_M {M N : IM} (hm : NodupM M) (hn : NodupM N) (h : ∀ n, getM M n = getM N n) : M.Perm N := by
  have nd : ∀ {M : IM}, NodupM M → M.Nodup := fun {M} h => by
    unfold NodupM at h
    rw [List.nodup_iff_pairwise_ne] at h ⊢
    rw [List.pairwise_map] at h
    exact h.imp fun hne he => hne (by rw [he])
  refine (List.perm_ext_iff_of_nodup (nd hm) (nd hn)).2 fun p => ?_
  rw [show p = (p.1, p.2) from rfl, ← getM_mem hm, ← getM_mem hn, h]
def factB (r : Report) : Bool := decide (U8.i r.Kind ≤ 7)
def mostI (k : Int) : Int := (([0, 0, 1000000000000, 1000000000000, 1000000000000, 10000, 1000000000000, 0, 1000000000000, 0] : List Int)[k.toNat]?).getD 0
def rightB (r : Report) : Bool := if (!inB 1 9 [U8.i r.Kind]) || ((!inB 0 999999 [r.Id, r.Source, r.Account, r.Of]) || ((!inB 0 100000 [r.Made, r.About]) || (!inB 0 (mostI (U8.i r.Kind)) [r.Cents]))) then false else
  if factB r then (r.Of == 0) else if (U8.i r.Kind == 9) && (r.About != 0) then false else (r.Of != r.Id)
theorem most_at {k : Int} (h : 0 ≤ k) (h' : k < 10) : ((([ia 0, ia 0, ia 1000000000000, ia 1000000000000, ia 1000000000000, ia 10000, ia 1000000000000, ia 0, ia 1000000000000, ia 0] : List AV)).drop (0 + k.toNat * 1)).take 1 = [ia (mostI k)] := by
  obtain ⟨n, rfl⟩ : ∃ n : Nat, k = n := ⟨k.toNat, by omega⟩
  have : n < 10 := by omega
  match n, this with
  | 0, _ => rfl
  | 1, _ => rfl
  | 2, _ => rfl
  | 3, _ => rfl
  | 4, _ => rfl
  | 5, _ => rfl
  | 6, _ => rfl
  | 7, _ => rfl
  | 8, _ => rfl
  | 9, _ => rfl
theorem inB1 {lo hi n : Int} (h : inB lo hi [n] = true) : lo ≤ n ∧ n ≤ hi := by
  simp only [inB, List.all_cons, List.all_nil, Bool.and_true, within, Bool.and_eq_true, decide_eq_true_eq] at h; omega
theorem right_valid (r : Report) : rightB r = validB r := by
  have key : ∀ k : Int, 1 ≤ k → k ≤ 9 → (k = 1 ∧ mostI k = 0) ∨ (k = 2 ∧ mostI k = 1000000000000) ∨ (k = 3 ∧ mostI k = 1000000000000) ∨ (k = 4 ∧ mostI k = 1000000000000) ∨ (k = 5 ∧ mostI k = 10000) ∨ (k = 6 ∧ mostI k = 1000000000000) ∨ (k = 7 ∧ mostI k = 0) ∨ (k = 8 ∧ mostI k = 1000000000000) ∨ (k = 9 ∧ mostI k = 0) := by
    intro k h1 h2
    obtain ⟨n, rfl⟩ : ∃ n : Nat, k = n := ⟨k.toNat, by omega⟩
    match n, (by omega : 1 ≤ n), (by omega : n ≤ 9) with
    | 1, _, _ => simp [mostI]
    | 2, _, _ => simp [mostI]
    | 3, _, _ => simp [mostI]
    | 4, _, _ => simp [mostI]
    | 5, _, _ => simp [mostI]
    | 6, _, _ => simp [mostI]
    | 7, _, _ => simp [mostI]
    | 8, _, _ => simp [mostI]
    | 9, _, _ => simp [mostI]
  rw [Bool.eq_iff_iff]
  unfold rightB validB centsB factB inB
  simp only [List.all_cons, List.all_nil, Bool.and_true, within]
  by_cases hk : 1 ≤ U8.i r.Kind ∧ U8.i r.Kind ≤ 9
  · rcases key _ hk.1 hk.2 with ⟨h, m⟩ | ⟨h, m⟩ | ⟨h, m⟩ | ⟨h, m⟩ | ⟨h, m⟩ | ⟨h, m⟩ | ⟨h, m⟩ | ⟨h, m⟩ | ⟨h, m⟩ <;> rw [m, h] <;> simp <;> constructor <;> intro hh <;> (repeat' (first | constructor | omega)) <;> omega
  · have e : ¬ (U8.i r.Kind ≥ 1 ∧ U8.i r.Kind ≤ 9) := hk
    constructor
    · intro h
      simp [Bool.or_eq_true] at h
      omega
    · intro h
      simp at h
      omega
theorem fact_ok (r : Report) : CallA Tryz.prog GT 106 [Report.av r] (.bool (factB r)) := by
  refine callA_of Tryz.func106 rfl (by simp [Tryz.f106]) rfl fun B ac hB hBd hG hS => ?_
  refine runs_seq ?_
  refine reg [] [1] hG hS (env := [(1, .box 0 0)]) (own := [.box none 73 [.int .i64 r.Id, .int .i64 r.Source, .int .i64 r.Account, .int .i64 r.Made, .int .i64 r.About, .int .u8 (U8.i r.Kind), .int .i64 r.Cents, .int .i64 r.Of]]) (obs := []) (by kernel_rfl) (trivial) fun ac wd hS => ?_
  refine runs_seq ?_
  refine reg [] [2] hG hS (env := [(2, .bool (decide ((U8.i r.Kind) ≤ 7)))]) (own := [.box none 73 [.int .i64 r.Id, .int .i64 r.Source, .int .i64 r.Account, .int .i64 r.Made, .int .i64 r.About, .int .u8 (U8.i r.Kind), .int .i64 r.Cents, .int .i64 r.Of]]) (obs := []) (by kernel_rfl) (trivial) fun ac wd hS => ?_
  rw [show (.bool (factB r) : AV) = .bool (decide ((U8.i r.Kind) ≤ 7)) from by (first | (simp [factB]; done) | (simp [factB]; omega) | (congr 1; simp only [factB]; grind))]
  exact retz Tryz.func106 rfl hB hBd hS (by kernel_rfl) rfl
theorem right_ok (r : Report) : CallA Tryz.prog GT 102 [Report.av r] (.bool (validB r)) := by
  rw [← right_valid]
  refine callA_of Tryz.func102 rfl (by simp [Tryz.f102]) rfl fun B ac hB hBd hG hS => ?_
  refine runs_seq ?_
  refine reg [] [1] hG hS (env := [(1, .box 0 0)]) (own := [.box none 73 [.int .i64 r.Id, .int .i64 r.Source, .int .i64 r.Account, .int .i64 r.Made, .int .i64 r.About, .int .u8 (U8.i r.Kind), .int .i64 r.Cents, .int .i64 r.Of]]) (obs := []) (by kernel_rfl) (trivial) fun ac wd hS => ?_
  refine runs_seq ?_
  refine runs_seq ?_
  rcases Bool.eq_false_or_eq_true (inB 1 9 [U8.i r.Kind]) with hb1 | hb1
  · skip
    rcases Bool.eq_false_or_eq_true (inB 0 999999 [r.Id, r.Source, r.Account, r.Of]) with hb2 | hb2
    · skip
      rcases Bool.eq_false_or_eq_true (inB 0 100000 [r.Made, r.About]) with hb3 | hb3
      · skip
        rcases Bool.eq_false_or_eq_true (inB 0 (mostI (U8.i r.Kind)) [r.Cents]) with hb4 | hb4
        · skip
          refine drw [(2, .is (U8.i r.Kind)), (4, .av (.bool (inB 1 9 [U8.i r.Kind]))), (6, .dec false), (16, .av (.bool (inB 0 999999 [r.Id, r.Source, r.Account, r.Of]))), (19, .dec false), (25, .av (.bool (inB 0 100000 [r.Made, r.About]))), (28, .dec false), (31, .av (.int .i64 (mostI (U8.i r.Kind)))), (36, .av (.bool (inB 0 (mostI (U8.i r.Kind)) [r.Cents]))), (38, .dec false)] [1, 41] hG hS (env := [(1, .box 0 0), (41, .bool false)]) (own := [.box none 73 [.int .i64 r.Id, .int .i64 r.Source, .int .i64 r.Account, .int .i64 r.Made, .int .i64 r.About, .int .u8 (U8.i r.Kind), .int .i64 r.Cents, .int .i64 r.Of]]) (obs := [IntKind.i64.wrap (U8.i r.Kind) = (U8.i r.Kind), CallA Tryz.prog GT 77 [.int .i64 1, .int .i64 9, .sl [.int .i64 (U8.i r.Kind)]] (.bool (inB 1 9 [U8.i r.Kind])), (!inB 1 9 [U8.i r.Kind]) = false, CallA Tryz.prog GT 77 [.int .i64 0, .int .i64 999999, .sl [.int .i64 r.Id, .int .i64 r.Source, .int .i64 r.Account, .int .i64 r.Of]] (.bool (inB 0 999999 [r.Id, r.Source, r.Account, r.Of])), (!inB 0 999999 [r.Id, r.Source, r.Account, r.Of]) = false, CallA Tryz.prog GT 77 [.int .i64 0, .int .i64 100000, .sl [.int .i64 r.Made, .int .i64 r.About]] (.bool (inB 0 100000 [r.Made, r.About])), (!inB 0 100000 [r.Made, r.About]) = false, 0 ≤ (U8.i r.Kind : Int) ∧ (U8.i r.Kind : Int) < 10 ∧ ((([.int .i64 0, .int .i64 0, .int .i64 1000000000000, .int .i64 1000000000000, .int .i64 1000000000000, .int .i64 10000, .int .i64 1000000000000, .int .i64 0, .int .i64 1000000000000, .int .i64 0] : List AV)).drop (0 + (U8.i r.Kind : Int).toNat * 1)).take 1 = AV.cells (.int .i64 (mostI (U8.i r.Kind))), CallA Tryz.prog GT 77 [.int .i64 0, .int .i64 (mostI (U8.i r.Kind)), .sl [.int .i64 r.Cents]] (.bool (inB 0 (mostI (U8.i r.Kind)) [r.Cents])), (!inB 0 (mostI (U8.i r.Kind)) [r.Cents]) = false]) (by kernel_rfl) (by kernel_rfl) (⟨(wrap_u8 _), (in_ok77 _ _ [U8.i r.Kind] (by simp)), by rw [hb1]; rfl, (in_ok77 _ _ [r.Id, r.Source, r.Account, r.Of] (by simp)), by rw [hb2]; rfl, (in_ok77 _ _ [r.Made, r.About] (by simp)), by rw [hb3]; rfl, (⟨by have := inB1 hb1; omega, by have := inB1 hb1; omega, most_at (by have := inB1 hb1; omega) (by have := inB1 hb1; omega)⟩), (in_ok77 _ _ [r.Cents] (by simp)), by rw [hb4]; rfl⟩) fun ac wd hS => ?_
          refine cond_no hS (c := false) (by kernel_rfl) rfl ?_
          refine runs_skip ?_
          refine runs_seq ?_
          refine runs_block ?_
          refine runs_seq ?_
          rcases Bool.eq_false_or_eq_true (factB r) with hb5 | hb5
          · skip
            refine reg [(1, .av (.bool (factB r))), (2, .dec true)] [1, 42] hG hS (env := [(1, .box 0 0), (42, .bool true)]) (own := [.box none 73 [.int .i64 r.Id, .int .i64 r.Source, .int .i64 r.Account, .int .i64 r.Made, .int .i64 r.About, .int .u8 (U8.i r.Kind), .int .i64 r.Cents, .int .i64 r.Of]]) (obs := [CallA Tryz.prog GT 106 [Report.av r] (.bool (factB r)), factB r = true]) (by kernel_rfl) (⟨(fact_ok _), hb5⟩) fun ac wd hS => ?_
            refine cond_yes hS (c := true) (by kernel_rfl) rfl ?_
            refine runs_seq ?_
            refine reg [] [2] hG hS (env := [(2, .bool (r.Of == 0))]) (own := [.box none 73 [.int .i64 r.Id, .int .i64 r.Source, .int .i64 r.Account, .int .i64 r.Made, .int .i64 r.About, .int .u8 (U8.i r.Kind), .int .i64 r.Cents, .int .i64 r.Of]]) (obs := []) (by kernel_rfl) (trivial) fun ac wd hS => ?_
            rw [show (.bool (rightB r) : AV) = .bool (r.Of == 0) from by simp only [rightB, hb1, hb2, hb3, hb4, hb5, Bool.and_true, Bool.true_and, Bool.and_false, Bool.false_and, Bool.or_true, Bool.true_or, Bool.or_false, Bool.false_or, Bool.not_true, Bool.not_false, Bool.false_eq_true, if_true, if_false]]
            exact retz Tryz.func102 rfl hB hBd hS (by kernel_rfl) rfl
          · skip
            refine reg [(1, .av (.bool (factB r))), (2, .dec false)] [1, 42] hG hS (env := [(1, .box 0 0), (42, .bool false)]) (own := [.box none 73 [.int .i64 r.Id, .int .i64 r.Source, .int .i64 r.Account, .int .i64 r.Made, .int .i64 r.About, .int .u8 (U8.i r.Kind), .int .i64 r.Cents, .int .i64 r.Of]]) (obs := [CallA Tryz.prog GT 106 [Report.av r] (.bool (factB r)), factB r = false]) (by kernel_rfl) (⟨(fact_ok _), hb5⟩) fun ac wd hS => ?_
            refine cond_no hS (c := false) (by kernel_rfl) rfl ?_
            refine runs_seq ?_
            rcases Bool.eq_false_or_eq_true (((U8.i r.Kind) == 9)) with hb6 | hb6
            · skip
              rcases Bool.eq_false_or_eq_true ((r.About != 0)) with hb7 | hb7
              · skip
                refine reg [(3, .dec true), (8, .dec true)] [1, 48] hG hS (env := [(1, .box 0 0), (48, .bool true)]) (own := [.box none 73 [.int .i64 r.Id, .int .i64 r.Source, .int .i64 r.Account, .int .i64 r.Made, .int .i64 r.About, .int .u8 (U8.i r.Kind), .int .i64 r.Cents, .int .i64 r.Of]]) (obs := [((U8.i r.Kind) == 9) = true, (r.About != 0) = true]) (by kernel_rfl) (⟨hb6, hb7⟩) fun ac wd hS => ?_
                refine cond_yes hS (c := true) (by kernel_rfl) rfl ?_
                refine runs_seq ?_
                refine reg [] [2] hG hS (env := [(2, .bool false)]) (own := [.box none 73 [.int .i64 r.Id, .int .i64 r.Source, .int .i64 r.Account, .int .i64 r.Made, .int .i64 r.About, .int .u8 (U8.i r.Kind), .int .i64 r.Cents, .int .i64 r.Of]]) (obs := []) (by kernel_rfl) (trivial) fun ac wd hS => ?_
                rw [show (.bool (rightB r) : AV) = .bool false from by simp only [rightB, hb1, hb2, hb3, hb4, hb5, hb6, hb7, Bool.and_true, Bool.true_and, Bool.and_false, Bool.false_and, Bool.or_true, Bool.true_or, Bool.or_false, Bool.false_or, Bool.not_true, Bool.not_false, Bool.false_eq_true, if_true, if_false]]
                exact retz Tryz.func102 rfl hB hBd hS (by kernel_rfl) rfl
              · skip
                refine reg [(3, .dec true), (8, .dec false)] [1, 48] hG hS (env := [(1, .box 0 0), (48, .bool false)]) (own := [.box none 73 [.int .i64 r.Id, .int .i64 r.Source, .int .i64 r.Account, .int .i64 r.Made, .int .i64 r.About, .int .u8 (U8.i r.Kind), .int .i64 r.Cents, .int .i64 r.Of]]) (obs := [((U8.i r.Kind) == 9) = true, (r.About != 0) = false]) (by kernel_rfl) (⟨hb6, hb7⟩) fun ac wd hS => ?_
                refine cond_no hS (c := false) (by kernel_rfl) rfl ?_
                refine runs_skip ?_
                refine runs_inBlock ?_
                refine runs_seq ?_
                refine reg [] [2] hG hS (env := [(2, .bool (r.Of != r.Id))]) (own := [.box none 73 [.int .i64 r.Id, .int .i64 r.Source, .int .i64 r.Account, .int .i64 r.Made, .int .i64 r.About, .int .u8 (U8.i r.Kind), .int .i64 r.Cents, .int .i64 r.Of]]) (obs := []) (by kernel_rfl) (trivial) fun ac wd hS => ?_
                rw [show (.bool (rightB r) : AV) = .bool (r.Of != r.Id) from by simp only [rightB, hb1, hb2, hb3, hb4, hb5, hb6, hb7, Bool.and_true, Bool.true_and, Bool.and_false, Bool.false_and, Bool.or_true, Bool.true_or, Bool.or_false, Bool.false_or, Bool.not_true, Bool.not_false, Bool.false_eq_true, if_true, if_false]]
                exact retz Tryz.func102 rfl hB hBd hS (by kernel_rfl) rfl
            · skip
              refine reg [(3, .dec false)] [1, 48] hG hS (env := [(1, .box 0 0), (48, .bool false)]) (own := [.box none 73 [.int .i64 r.Id, .int .i64 r.Source, .int .i64 r.Account, .int .i64 r.Made, .int .i64 r.About, .int .u8 (U8.i r.Kind), .int .i64 r.Cents, .int .i64 r.Of]]) (obs := [((U8.i r.Kind) == 9) = false]) (by kernel_rfl) (hb6) fun ac wd hS => ?_
              refine cond_no hS (c := false) (by kernel_rfl) rfl ?_
              refine runs_skip ?_
              refine runs_inBlock ?_
              refine runs_seq ?_
              refine reg [] [2] hG hS (env := [(2, .bool (r.Of != r.Id))]) (own := [.box none 73 [.int .i64 r.Id, .int .i64 r.Source, .int .i64 r.Account, .int .i64 r.Made, .int .i64 r.About, .int .u8 (U8.i r.Kind), .int .i64 r.Cents, .int .i64 r.Of]]) (obs := []) (by kernel_rfl) (trivial) fun ac wd hS => ?_
              rw [show (.bool (rightB r) : AV) = .bool (r.Of != r.Id) from by simp only [rightB, hb1, hb2, hb3, hb4, hb5, hb6, Bool.and_true, Bool.true_and, Bool.and_false, Bool.false_and, Bool.or_true, Bool.true_or, Bool.or_false, Bool.false_or, Bool.not_true, Bool.not_false, Bool.false_eq_true, if_true, if_false]]
              exact retz Tryz.func102 rfl hB hBd hS (by kernel_rfl) rfl
        · skip
          refine drw [(2, .is (U8.i r.Kind)), (4, .av (.bool (inB 1 9 [U8.i r.Kind]))), (6, .dec false), (16, .av (.bool (inB 0 999999 [r.Id, r.Source, r.Account, r.Of]))), (19, .dec false), (25, .av (.bool (inB 0 100000 [r.Made, r.About]))), (28, .dec false), (31, .av (.int .i64 (mostI (U8.i r.Kind)))), (36, .av (.bool (inB 0 (mostI (U8.i r.Kind)) [r.Cents]))), (38, .dec true)] [1, 41] hG hS (env := [(1, .box 0 0), (41, .bool true)]) (own := [.box none 73 [.int .i64 r.Id, .int .i64 r.Source, .int .i64 r.Account, .int .i64 r.Made, .int .i64 r.About, .int .u8 (U8.i r.Kind), .int .i64 r.Cents, .int .i64 r.Of]]) (obs := [IntKind.i64.wrap (U8.i r.Kind) = (U8.i r.Kind), CallA Tryz.prog GT 77 [.int .i64 1, .int .i64 9, .sl [.int .i64 (U8.i r.Kind)]] (.bool (inB 1 9 [U8.i r.Kind])), (!inB 1 9 [U8.i r.Kind]) = false, CallA Tryz.prog GT 77 [.int .i64 0, .int .i64 999999, .sl [.int .i64 r.Id, .int .i64 r.Source, .int .i64 r.Account, .int .i64 r.Of]] (.bool (inB 0 999999 [r.Id, r.Source, r.Account, r.Of])), (!inB 0 999999 [r.Id, r.Source, r.Account, r.Of]) = false, CallA Tryz.prog GT 77 [.int .i64 0, .int .i64 100000, .sl [.int .i64 r.Made, .int .i64 r.About]] (.bool (inB 0 100000 [r.Made, r.About])), (!inB 0 100000 [r.Made, r.About]) = false, 0 ≤ (U8.i r.Kind : Int) ∧ (U8.i r.Kind : Int) < 10 ∧ ((([.int .i64 0, .int .i64 0, .int .i64 1000000000000, .int .i64 1000000000000, .int .i64 1000000000000, .int .i64 10000, .int .i64 1000000000000, .int .i64 0, .int .i64 1000000000000, .int .i64 0] : List AV)).drop (0 + (U8.i r.Kind : Int).toNat * 1)).take 1 = AV.cells (.int .i64 (mostI (U8.i r.Kind))), CallA Tryz.prog GT 77 [.int .i64 0, .int .i64 (mostI (U8.i r.Kind)), .sl [.int .i64 r.Cents]] (.bool (inB 0 (mostI (U8.i r.Kind)) [r.Cents])), (!inB 0 (mostI (U8.i r.Kind)) [r.Cents]) = true]) (by kernel_rfl) (by kernel_rfl) (⟨(wrap_u8 _), (in_ok77 _ _ [U8.i r.Kind] (by simp)), by rw [hb1]; rfl, (in_ok77 _ _ [r.Id, r.Source, r.Account, r.Of] (by simp)), by rw [hb2]; rfl, (in_ok77 _ _ [r.Made, r.About] (by simp)), by rw [hb3]; rfl, (⟨by have := inB1 hb1; omega, by have := inB1 hb1; omega, most_at (by have := inB1 hb1; omega) (by have := inB1 hb1; omega)⟩), (in_ok77 _ _ [r.Cents] (by simp)), by rw [hb4]; rfl⟩) fun ac wd hS => ?_
          refine cond_yes hS (c := true) (by kernel_rfl) rfl ?_
          refine runs_seq ?_
          refine reg [] [2] hG hS (env := [(2, .bool false)]) (own := [.box none 73 [.int .i64 r.Id, .int .i64 r.Source, .int .i64 r.Account, .int .i64 r.Made, .int .i64 r.About, .int .u8 (U8.i r.Kind), .int .i64 r.Cents, .int .i64 r.Of]]) (obs := []) (by kernel_rfl) (trivial) fun ac wd hS => ?_
          rw [show (.bool (rightB r) : AV) = .bool false from by simp only [rightB, hb1, hb2, hb3, hb4, Bool.and_true, Bool.true_and, Bool.and_false, Bool.false_and, Bool.or_true, Bool.true_or, Bool.or_false, Bool.false_or, Bool.not_true, Bool.not_false, Bool.false_eq_true, if_true, if_false]]
          exact retz Tryz.func102 rfl hB hBd hS (by kernel_rfl) rfl
      · skip
        refine drw [(2, .is (U8.i r.Kind)), (4, .av (.bool (inB 1 9 [U8.i r.Kind]))), (6, .dec false), (16, .av (.bool (inB 0 999999 [r.Id, r.Source, r.Account, r.Of]))), (19, .dec false), (25, .av (.bool (inB 0 100000 [r.Made, r.About]))), (28, .dec true)] [1, 41] hG hS (env := [(1, .box 0 0), (41, .bool true)]) (own := [.box none 73 [.int .i64 r.Id, .int .i64 r.Source, .int .i64 r.Account, .int .i64 r.Made, .int .i64 r.About, .int .u8 (U8.i r.Kind), .int .i64 r.Cents, .int .i64 r.Of]]) (obs := [IntKind.i64.wrap (U8.i r.Kind) = (U8.i r.Kind), CallA Tryz.prog GT 77 [.int .i64 1, .int .i64 9, .sl [.int .i64 (U8.i r.Kind)]] (.bool (inB 1 9 [U8.i r.Kind])), (!inB 1 9 [U8.i r.Kind]) = false, CallA Tryz.prog GT 77 [.int .i64 0, .int .i64 999999, .sl [.int .i64 r.Id, .int .i64 r.Source, .int .i64 r.Account, .int .i64 r.Of]] (.bool (inB 0 999999 [r.Id, r.Source, r.Account, r.Of])), (!inB 0 999999 [r.Id, r.Source, r.Account, r.Of]) = false, CallA Tryz.prog GT 77 [.int .i64 0, .int .i64 100000, .sl [.int .i64 r.Made, .int .i64 r.About]] (.bool (inB 0 100000 [r.Made, r.About])), (!inB 0 100000 [r.Made, r.About]) = true]) (by kernel_rfl) (by kernel_rfl) (⟨(wrap_u8 _), (in_ok77 _ _ [U8.i r.Kind] (by simp)), by rw [hb1]; rfl, (in_ok77 _ _ [r.Id, r.Source, r.Account, r.Of] (by simp)), by rw [hb2]; rfl, (in_ok77 _ _ [r.Made, r.About] (by simp)), by rw [hb3]; rfl⟩) fun ac wd hS => ?_
        refine cond_yes hS (c := true) (by kernel_rfl) rfl ?_
        refine runs_seq ?_
        refine reg [] [2] hG hS (env := [(2, .bool false)]) (own := [.box none 73 [.int .i64 r.Id, .int .i64 r.Source, .int .i64 r.Account, .int .i64 r.Made, .int .i64 r.About, .int .u8 (U8.i r.Kind), .int .i64 r.Cents, .int .i64 r.Of]]) (obs := []) (by kernel_rfl) (trivial) fun ac wd hS => ?_
        rw [show (.bool (rightB r) : AV) = .bool false from by simp only [rightB, hb1, hb2, hb3, Bool.and_true, Bool.true_and, Bool.and_false, Bool.false_and, Bool.or_true, Bool.true_or, Bool.or_false, Bool.false_or, Bool.not_true, Bool.not_false, Bool.false_eq_true, if_true, if_false]]
        exact retz Tryz.func102 rfl hB hBd hS (by kernel_rfl) rfl
    · skip
      refine drw [(2, .is (U8.i r.Kind)), (4, .av (.bool (inB 1 9 [U8.i r.Kind]))), (6, .dec false), (16, .av (.bool (inB 0 999999 [r.Id, r.Source, r.Account, r.Of]))), (19, .dec true)] [1, 41] hG hS (env := [(1, .box 0 0), (41, .bool true)]) (own := [.box none 73 [.int .i64 r.Id, .int .i64 r.Source, .int .i64 r.Account, .int .i64 r.Made, .int .i64 r.About, .int .u8 (U8.i r.Kind), .int .i64 r.Cents, .int .i64 r.Of]]) (obs := [IntKind.i64.wrap (U8.i r.Kind) = (U8.i r.Kind), CallA Tryz.prog GT 77 [.int .i64 1, .int .i64 9, .sl [.int .i64 (U8.i r.Kind)]] (.bool (inB 1 9 [U8.i r.Kind])), (!inB 1 9 [U8.i r.Kind]) = false, CallA Tryz.prog GT 77 [.int .i64 0, .int .i64 999999, .sl [.int .i64 r.Id, .int .i64 r.Source, .int .i64 r.Account, .int .i64 r.Of]] (.bool (inB 0 999999 [r.Id, r.Source, r.Account, r.Of])), (!inB 0 999999 [r.Id, r.Source, r.Account, r.Of]) = true]) (by kernel_rfl) (by kernel_rfl) (⟨(wrap_u8 _), (in_ok77 _ _ [U8.i r.Kind] (by simp)), by rw [hb1]; rfl, (in_ok77 _ _ [r.Id, r.Source, r.Account, r.Of] (by simp)), by rw [hb2]; rfl⟩) fun ac wd hS => ?_
      refine cond_yes hS (c := true) (by kernel_rfl) rfl ?_
      refine runs_seq ?_
      refine reg [] [2] hG hS (env := [(2, .bool false)]) (own := [.box none 73 [.int .i64 r.Id, .int .i64 r.Source, .int .i64 r.Account, .int .i64 r.Made, .int .i64 r.About, .int .u8 (U8.i r.Kind), .int .i64 r.Cents, .int .i64 r.Of]]) (obs := []) (by kernel_rfl) (trivial) fun ac wd hS => ?_
      rw [show (.bool (rightB r) : AV) = .bool false from by simp only [rightB, hb1, hb2, Bool.and_true, Bool.true_and, Bool.and_false, Bool.false_and, Bool.or_true, Bool.true_or, Bool.or_false, Bool.false_or, Bool.not_true, Bool.not_false, Bool.false_eq_true, if_true, if_false]]
      exact retz Tryz.func102 rfl hB hBd hS (by kernel_rfl) rfl
  · skip
    refine drw [(2, .is (U8.i r.Kind)), (4, .av (.bool (inB 1 9 [U8.i r.Kind]))), (6, .dec true)] [1, 41] hG hS (env := [(1, .box 0 0), (41, .bool true)]) (own := [.box none 73 [.int .i64 r.Id, .int .i64 r.Source, .int .i64 r.Account, .int .i64 r.Made, .int .i64 r.About, .int .u8 (U8.i r.Kind), .int .i64 r.Cents, .int .i64 r.Of]]) (obs := [IntKind.i64.wrap (U8.i r.Kind) = (U8.i r.Kind), CallA Tryz.prog GT 77 [.int .i64 1, .int .i64 9, .sl [.int .i64 (U8.i r.Kind)]] (.bool (inB 1 9 [U8.i r.Kind])), (!inB 1 9 [U8.i r.Kind]) = true]) (by kernel_rfl) (by kernel_rfl) (⟨(wrap_u8 _), (in_ok77 _ _ [U8.i r.Kind] (by simp)), by rw [hb1]; rfl⟩) fun ac wd hS => ?_
    refine cond_yes hS (c := true) (by kernel_rfl) rfl ?_
    refine runs_seq ?_
    refine reg [] [2] hG hS (env := [(2, .bool false)]) (own := [.box none 73 [.int .i64 r.Id, .int .i64 r.Source, .int .i64 r.Account, .int .i64 r.Made, .int .i64 r.About, .int .u8 (U8.i r.Kind), .int .i64 r.Cents, .int .i64 r.Of]]) (obs := []) (by kernel_rfl) (trivial) fun ac wd hS => ?_
    rw [show (.bool (rightB r) : AV) = .bool false from by simp only [rightB, hb1, Bool.and_true, Bool.true_and, Bool.and_false, Bool.false_and, Bool.or_true, Bool.true_or, Bool.or_false, Bool.false_or, Bool.not_true, Bool.not_false, Bool.false_eq_true, if_true, if_false]]
    exact retz Tryz.func102 rfl hB hBd hS (by kernel_rfl) rfl
end Go.Fw

set_option maxRecDepth 20000
namespace Go.Fw
open Go.Proofs

theorem NodupR.get {K : List Report} (h : NodupR K) {x : Report} (hx : x ∈ K) : getR K x.Id = some x := findK_of (kf := Report.Id) h hx
theorem getR_mem {K : List Report} {n : Int} {q : Report} (h : getR K n = some q) : q ∈ K ∧ q.Id = n := findK_mem (kf := Report.Id) h
theorem NodupR.eq {K : List Report} (h : NodupR K) {x y : Report} (hx : x ∈ K) (hy : y ∈ K) (he : x.Id = y.Id) : x = y := by
  have h1 := h.get hx
  rw [he, h.get hy] at h1
  exact (Option.some.inj h1).symm
structure Good (K : List Report) : Prop where
  nd : NodupR K
  ok : ∀ x ∈ K, validB x = true
theorem Good.uniq {K : List Report} (h : Good K) : UniqR K := fun x hx => ⟨h.nd.get hx, (valid_id (h.ok x hx)).1⟩
theorem known_nodup (known : Int) : ∀ (l out : List Report), NodupR out → NodupR (l.foldl (knownStep known) out)
  | [], out, h => h
  | x :: l, out, h => by
    simp only [List.foldl_cons]
    refine known_nodup known l _ ?_
    unfold knownStep
    split
    · rename_i hc
      simp only [Bool.and_eq_true, decide_eq_true_eq] at hc
      have hn : getR out x.Id = none := by
        have := atI_neg (l := out) (id := x.Id)
        rw [decide_eq_true hc.2] at this
        simpa using this.symm
      have : putK Report.Id out x = out ++ [x] := by unfold putK; rw [show findK Report.Id out x.Id = none from hn]
      rw [← this]
      exact putK_nodup (kf := Report.Id) h x
    · exact h
theorem Fine.good {l : List Report} (h : Fine l) (d : Int) : Good (knownL l d) := by
  refine ⟨known_nodup d l [] (by simp [NodupR]), fun x hx => ?_⟩
  rcases (known_spec d l [] (fun x hx => (valid_id (h.ok x hx)).1) (fun x hx => by simp at hx)).2.2 x hx with h1 | h1
  · simp at h1
  · exact h.ok x h1.1
def ofR (K : List Report) (r : Report) : Report := (getR K r.Of).getD zeroR
theorem aims_of {K : List Report} {r : Report} (h : aimsB K r = true) : getR K r.Of = some (ofR K r) ∧ ofR K r ∈ K ∧ (ofR K r).Id = r.Of := by
  unfold aimsB at h
  cases hg : getR K r.Of with
  | none => rw [hg] at h; cases h
  | some q =>
    have : ofR K r = q := by simp [ofR, hg]
    obtain ⟨h1, h2⟩ := getR_mem hg
    rw [this]; exact ⟨rfl, h1, h2⟩
def WW (K : List Report) (r : Report) (n : Int) : Prop := U8.i r.Kind = 9 ∧ aimsB K r = true ∧ U8.i (ofR K r).Kind ≠ 9 ∧ (ofR K r).Id = n
structure WdInv (K S : List Report) (G : IM) : Prop where
  nd : NodupM G
  ok : ∀ n v, getM G n = some v ↔ ∃ r ∈ S, WW K r n ∧ r.Id = v ∧ ∀ r' ∈ S, WW K r' n → v ≤ r'.Id
theorem WdInv.nil (K : List Report) : WdInv K [] [] := ⟨by simp [NodupM], fun n v => by simp [getM, findK]⟩
theorem WdInv.none {K S : List Report} {G : IM} (h : WdInv K S G) {n : Int} (hg : getM G n = none) : ∀ r ∈ S, ¬ WW K r n := by
  intro r hr hw
  -- the least of those
  have key : ∀ (m : Nat), ∀ r ∈ S, WW K r n → (r.Id - (S.map Report.Id).foldl min 0).toNat ≤ m → ∃ r ∈ S, WW K r n ∧ ∀ r' ∈ S, WW K r' n → r.Id ≤ r'.Id := by
    intro m
    induction m with
    | zero =>
      intro r hr hw hm
      refine ⟨r, hr, hw, fun r' hr' _ => ?_⟩
      have : ∀ (l : List Int) (a : Int), l.foldl min a ≤ a ∧ ∀ x ∈ l, l.foldl min a ≤ x := by
        intro l
        induction l with
        | nil => intro a; simp
        | cons y l ih =>
          intro a
          simp only [List.foldl_cons]
          obtain ⟨h1, h2⟩ := ih (min a y)
          refine ⟨by omega, fun x hx => ?_⟩
          rcases List.mem_cons.1 hx with rfl | hx
          · omega
          · exact h2 x hx
      have h1 := (this (S.map Report.Id) 0).2 r'.Id (List.mem_map_of_mem hr')
      omega
    | succ m ih =>
      intro r hr hw hm
      by_cases hall : ∀ r' ∈ S, WW K r' n → r.Id ≤ r'.Id
      · exact ⟨r, hr, hw, hall⟩
      · have ⟨r', hr', hw', hlt⟩ : ∃ r' ∈ S, WW K r' n ∧ r'.Id < r.Id := by
          refine Classical.byContradiction fun hno => hall fun r' hr' hw' => ?_
          by_cases hl : r'.Id < r.Id
          · exact absurd ⟨r', hr', hw', hl⟩ hno
          · omega
        exact ih r' hr' hw' (by omega)
  obtain ⟨q, hq, hqw, hql⟩ := key _ r hr hw (Nat.le_refl _)
  have := (h.ok n q.Id).2 ⟨q, hq, hqw, rfl, hql⟩
  rw [hg] at this; cases this
theorem WdInv.skip {K S : List Report} {G : IM} (h : WdInv K S G) (r : Report) (hr : ∀ n, ¬ WW K r n) : WdInv K (S ++ [r]) G := by
  refine ⟨h.nd, fun n v => (h.ok n v).trans ?_⟩
  constructor
  · rintro ⟨x, hx, hw, hv, hl⟩
    refine ⟨x, by simp [hx], hw, hv, fun y hy hyw => ?_⟩
    rcases List.mem_append.1 hy with hy | hy
    · exact hl y hy hyw
    · simp at hy; subst hy; exact absurd hyw (hr n)
  · rintro ⟨x, hx, hw, hv, hl⟩
    rcases List.mem_append.1 hx with hx | hx
    · exact ⟨x, hx, hw, hv, fun y hy hyw => hl y (by simp [hy]) hyw⟩
    · simp at hx; subst hx; exact absurd hw (hr n)
theorem WdInv.put {K S : List Report} {G : IM} (h : WdInv K S G) {r : Report} {n0 : Int} (hr : WW K r n0) (hl : ∀ v, getM G n0 = some v → r.Id < v) : WdInv K (S ++ [r]) (putM G n0 r.Id) := by
  have hone : ∀ n, WW K r n → n = n0 := fun n hn => hn.2.2.2.symm.trans hr.2.2.2
  refine ⟨putM_nodup h.nd _ _, fun n v => ?_⟩
  rw [getM_put]
  split
  · rename_i hn; subst hn
    constructor
    · intro hv
      cases hv
      refine ⟨r, by simp, hr, rfl, fun y hy hyw => ?_⟩
      rcases List.mem_append.1 hy with hy | hy
      · cases hg : getM G n0 with
        | none => exact absurd hyw (h.none hg y hy)
        | some u =>
          obtain ⟨z, _, _, rfl, hz⟩ := (h.ok n0 u).1 hg
          have := hl _ hg; have := hz y hy hyw; omega
      · simp at hy; subst hy; exact Int.le_refl _
    · rintro ⟨x, hx, hw, rfl, hl'⟩
      rcases List.mem_append.1 hx with hx | hx
      · exfalso
        have h1 := hl' r (by simp) hr
        cases hg : getM G n0 with
        | none => exact h.none hg x hx hw
        | some u =>
          obtain ⟨z, hz1, hz2, rfl, hz⟩ := (h.ok n0 u).1 hg
          have := hl _ hg; have := hz x hx hw; have := hl' z (by simp [hz1]) hz2; omega
      · simp at hx; subst hx; rfl
  · rename_i hn
    rw [h.ok n v]
    constructor
    · rintro ⟨x, hx, hw, hv, hl'⟩
      refine ⟨x, by simp [hx], hw, hv, fun y hy hyw => ?_⟩
      rcases List.mem_append.1 hy with hy | hy
      · exact hl' y hy hyw
      · simp at hy; subst hy; exact absurd (hone n hyw).symm hn
    · rintro ⟨x, hx, hw, hv, hl'⟩
      rcases List.mem_append.1 hx with hx | hx
      · exact ⟨x, hx, hw, hv, fun y hy hyw => hl' y (by simp [hy]) hyw⟩
      · simp at hx; subst hx; exact absurd (hone n hw).symm hn
theorem WdInv.keep {K S : List Report} {G : IM} (h : WdInv K S G) {r : Report} {n0 v0 : Int} (hr : WW K r n0) (hg : getM G n0 = some v0) (hl : v0 ≤ r.Id) (hne : ∀ x ∈ S, x.Id ≠ r.Id) : WdInv K (S ++ [r]) G := by
  have hone : ∀ n, WW K r n → n = n0 := fun n hn => hn.2.2.2.symm.trans hr.2.2.2
  refine ⟨h.nd, fun n v => (h.ok n v).trans ?_⟩
  constructor
  · rintro ⟨x, hx, hw, hv, hl'⟩
    refine ⟨x, by simp [hx], hw, hv, fun y hy hyw => ?_⟩
    rcases List.mem_append.1 hy with hy | hy
    · exact hl' y hy hyw
    · simp at hy; subst hy
      have := hone n hyw; subst this
      have h2 := (h.ok n v).2 ⟨x, hx, hw, hv, hl'⟩
      rw [hg] at h2; cases h2; exact hl
  · rintro ⟨x, hx, hw, hv, hl'⟩
    rcases List.mem_append.1 hx with hx | hx
    · exact ⟨x, hx, hw, hv, fun y hy hyw => hl' y (by simp [hy]) hyw⟩
    · simp at hx; subst hx
      have := hone n hw; subst this
      obtain ⟨z, hz1, hz2, hz3, hz⟩ := (h.ok n v0).1 hg
      have h3 := hl' z (by simp [hz1]) hz2
      exact absurd (by omega) (hne z hz1)
theorem WdInv.perm {K S S' : List Report} {G : IM} (h : WdInv K S G) (hp : S.Perm S') : WdInv K S' G :=
  ⟨h.nd, fun n v => (h.ok n v).trans ⟨fun ⟨x, hx, hw, hv, hl⟩ => ⟨x, hp.mem_iff.1 hx, hw, hv, fun y hy => hl y (hp.mem_iff.2 hy)⟩, fun ⟨x, hx, hw, hv, hl⟩ => ⟨x, hp.mem_iff.2 hx, hw, hv, fun y hy => hl y (hp.mem_iff.1 hy)⟩⟩⟩
theorem opt_ext {α : Type} {x y : Option α} (h : ∀ v, x = some v ↔ y = some v) : x = y := by
  cases x with
  | none => cases y with
    | none => rfl
    | some b => exact absurd ((h b).2 rfl) (by simp)
  | some a => exact ((h a).1 rfl).symm
theorem WdInv.unique {K S : List Report} {G G' : IM} (h : WdInv K S G) (h' : WdInv K S G') : G.Perm G' :=
  perm_M h.nd h'.nd fun n => opt_ext fun v => (h.ok n v).trans (h'.ok n v).symm
theorem wd_fold (l : List Report) (id : Int) (q : Report) : ∀ (m : List Report) (b : Int), (∀ x ∈ m, 0 ≤ x.Id) →
    (m.foldl (wdStep l id q) b = b ∧ ∀ x ∈ m, U8.i x.Kind = 9 → x.Of = id → U8.i q.Kind ≠ 9 → aimsB l x = true → 0 ≤ b ∧ b ≤ x.Id) ∨
    ∃ x ∈ m, U8.i x.Kind = 9 ∧ x.Of = id ∧ U8.i q.Kind ≠ 9 ∧ aimsB l x = true ∧ m.foldl (wdStep l id q) b = x.Id ∧ (0 ≤ b → x.Id ≤ b) ∧ ∀ y ∈ m, U8.i y.Kind = 9 → y.Of = id → aimsB l y = true → x.Id ≤ y.Id
  | [], b, _ => .inl ⟨rfl, by simp⟩
  | z :: m, b, hp => by
    simp only [List.foldl_cons]
    have hz := hp z (by simp)
    have hp' : ∀ x ∈ m, 0 ≤ x.Id := fun x hx => hp x (by simp [hx])
    by_cases hc : U8.i z.Kind = 9 ∧ z.Of = id ∧ U8.i q.Kind ≠ 9 ∧ aimsB l z = true
    · by_cases hb : b < 0 ∨ z.Id < b
      · have e : wdStep l id q b z = z.Id := by
          unfold wdStep
          rw [if_pos]
          simp only [Bool.and_eq_true, Bool.or_eq_true, beq_iff_eq, bne_iff_ne, decide_eq_true_eq]
          exact ⟨hc.1, hc.2.1, hc.2.2.1, hc.2.2.2, hb⟩
        rw [e]
        rcases wd_fold l id q m z.Id hp' with ⟨h1, h2⟩ | ⟨x, hx, a1, a2, a3, a4, a5, a6, a7⟩
        · refine .inr ⟨z, by simp, hc.1, hc.2.1, hc.2.2.1, hc.2.2.2, h1, fun h0 => by omega, fun y hy b1 b2 b3 => ?_⟩
          rcases List.mem_cons.1 hy with rfl | hy
          · exact Int.le_refl _
          · exact (h2 y hy b1 b2 hc.2.2.1 b3).2
        · refine .inr ⟨x, by simp [hx], a1, a2, a3, a4, a5, fun h0 => by have := a6 hz; omega, fun y hy b1 b2 b3 => ?_⟩
          rcases List.mem_cons.1 hy with rfl | hy
          · exact a6 hz
          · exact a7 y hy b1 b2 b3
      · have e : wdStep l id q b z = b := by
          unfold wdStep
          rw [if_neg]
          simp only [Bool.and_eq_true, Bool.or_eq_true, beq_iff_eq, bne_iff_ne, decide_eq_true_eq]
          rintro ⟨_, _, _, _, h⟩; exact hb h
        rw [e]
        rcases wd_fold l id q m b hp' with ⟨h1, h2⟩ | ⟨x, hx, a1, a2, a3, a4, a5, a6, a7⟩
        · refine .inl ⟨h1, fun y hy b1 b2 b3 b4 => ?_⟩
          rcases List.mem_cons.1 hy with rfl | hy
          · omega
          · exact h2 y hy b1 b2 b3 b4
        · refine .inr ⟨x, by simp [hx], a1, a2, a3, a4, a5, a6, fun y hy b1 b2 b3 => ?_⟩
          rcases List.mem_cons.1 hy with rfl | hy
          · have := a6 (by omega); omega
          · exact a7 y hy b1 b2 b3
    · have e : wdStep l id q b z = b := by
        unfold wdStep
        rw [if_neg]
        simp only [Bool.and_eq_true, Bool.or_eq_true, beq_iff_eq, bne_iff_ne, decide_eq_true_eq]
        rintro ⟨h1, h2, h3, h4, _⟩; exact hc ⟨h1, h2, h3, h4⟩
      rw [e]
      rcases wd_fold l id q m b hp' with ⟨h1, h2⟩ | ⟨x, hx, a1, a2, a3, a4, a5, a6, a7⟩
      · refine .inl ⟨h1, fun y hy b1 b2 b3 b4 => ?_⟩
        rcases List.mem_cons.1 hy with rfl | hy
        · exact absurd ⟨b1, b2, b3, b4⟩ hc
        · exact h2 y hy b1 b2 b3 b4
      · refine .inr ⟨x, by simp [hx], a1, a2, a3, a4, a5, a6, fun y hy b1 b2 b3 => ?_⟩
        rcases List.mem_cons.1 hy with rfl | hy
        · exact absurd ⟨b1, b2, a3, b3⟩ hc
        · exact a7 y hy b1 b2 b3
theorem withdrawn_cases {K : List Report} (hK : Good K) {q : Report} (hq : q ∈ K) :
    (withdrawnI K q.Id q = -1 ∧ ∀ r ∈ K, ¬ WW K r q.Id) ∨ ∃ r ∈ K, WW K r q.Id ∧ withdrawnI K q.Id q = r.Id ∧ 0 ≤ r.Id ∧ ∀ r' ∈ K, WW K r' q.Id → r.Id ≤ r'.Id := by
  have hp : ∀ x ∈ K, 0 ≤ x.Id := fun x hx => (hK.uniq x hx).2
  have hww : ∀ r, WW K r q.Id → U8.i r.Kind = 9 ∧ r.Of = q.Id ∧ U8.i q.Kind ≠ 9 ∧ aimsB K r = true := by
    rintro r ⟨h1, h2, h3, h4⟩
    obtain ⟨h5, h6, h7⟩ := aims_of h2
    have : ofR K r = q := hK.nd.eq h6 hq h4
    rw [this] at h3 h7
    exact ⟨h1, h7.symm, h3, h2⟩
  have hww' : ∀ r, U8.i r.Kind = 9 → r.Of = q.Id → U8.i q.Kind ≠ 9 → aimsB K r = true → WW K r q.Id := by
    intro r h1 h2 h3 h4
    obtain ⟨h5, h6, h7⟩ := aims_of h4
    have : ofR K r = q := hK.nd.eq h6 hq (h7.trans h2)
    exact ⟨h1, h4, by rw [this]; exact h3, by rw [this]⟩
  rcases wd_fold K q.Id q K (-1) hp with ⟨h1, h2⟩ | ⟨x, hx, a1, a2, a3, a4, a5, a6, a7⟩
  · refine .inl ⟨h1, fun r hr hw => ?_⟩
    obtain ⟨b1, b2, b3, b4⟩ := hww r hw
    have := h2 r hr b1 b2 b3 b4
    omega
  · refine .inr ⟨x, hx, hww' x a1 a2 a3 a4, a5, hp x hx, fun r' hr' hw => ?_⟩
    obtain ⟨b1, b2, b3, b4⟩ := hww r' hw
    exact a7 r' hr' b1 b2 b4
theorem wd_iff {K : List Report} (hK : Good K) {q : Report} (hq : q ∈ K) : withdrawnI K q.Id q ≥ 0 ↔ ∃ r ∈ K, WW K r q.Id := by
  rcases withdrawn_cases hK hq with ⟨h1, h2⟩ | ⟨r, h1, h2, h3, h4, _⟩
  · rw [h1]; exact ⟨fun h => by omega, fun ⟨r, hr, hw⟩ => absurd hw (h2 r hr)⟩
  · rw [h3]; exact ⟨fun _ => ⟨r, h1, h2⟩, fun _ => h4⟩
def goneL (K : List Report) : IM := K.filterMap fun q => if withdrawnI K q.Id q ≥ 0 then some (q.Id, withdrawnI K q.Id q) else none
theorem nodup_filterMap {K : List Report} (hK : NodupR K) (f : Report → Option (Int × Int)) (hf : ∀ q p, f q = some p → p.1 = q.Id) : NodupM (K.filterMap f) := by
  unfold NodupM NodupR at *
  induction K with
  | nil => simp
  | cons x K ih =>
    simp only [List.map_cons, List.nodup_cons] at hK
    simp only [List.filterMap_cons]
    cases hx : f x with
    | none => exact ih hK.2
    | some p =>
      simp only [List.map_cons, List.nodup_cons]
      refine ⟨fun hm => hK.1 ?_, ih hK.2⟩
      obtain ⟨p', hp', he⟩ := List.mem_map.1 hm
      obtain ⟨y, hy, hfy⟩ := List.mem_filterMap.1 hp'
      rw [hf x p hx] at he
      rw [← he, hf y p' hfy]
      exact List.mem_map_of_mem hy
theorem goneL_inv {K : List Report} (hK : Good K) : WdInv K K (goneL K) := by
  have hnd : NodupM (goneL K) := nodup_filterMap hK.nd _ (fun q p h => by split at h <;> simp at h; rw [← h])
  refine ⟨hnd, fun n v => ?_⟩
  rw [getM_mem hnd]
  simp only [goneL, List.mem_filterMap]
  constructor
  · rintro ⟨q, hq, h⟩
    split at h
    · rename_i h0
      simp only [Option.some.injEq, Prod.mk.injEq] at h
      obtain ⟨rfl, rfl⟩ := h
      rcases withdrawn_cases hK hq with ⟨h1, h2⟩ | ⟨r, h1, h2, h3, h4, h5⟩
      · omega
      · exact ⟨r, h1, h2, h3.symm, fun r' hr' hw => by rw [h3]; exact h5 r' hr' hw⟩
    · cases h
  · rintro ⟨r, hr, hw, rfl, hl⟩
    obtain ⟨_, hq, _⟩ := aims_of hw.2.1
    have hn : (ofR K r).Id = n := hw.2.2.2
    refine ⟨ofR K r, hq, ?_⟩
    rw [← hn] at hw hl
    rcases withdrawn_cases hK hq with ⟨h1, h2⟩ | ⟨r2, h1, h2, h3, h4, h5⟩
    · exact absurd hw (h2 r hr)
    · have e1 := h5 r hr hw
      have e2 := hl r2 h1 h2
      have e3 : r2.Id = r.Id := by omega
      rw [h3, if_pos h4, e3, hn]
theorem gone_some {K : List Report} (hK : Good K) {G : IM} (h : WdInv K K G) {q : Report} (hq : q ∈ K) : (getM G q.Id).isSome = decide (withdrawnI K q.Id q ≥ 0) := by
  rw [Bool.eq_iff_iff, Option.isSome_iff_exists, decide_eq_true_eq, wd_iff hK hq]
  constructor
  · rintro ⟨v, hv⟩
    obtain ⟨r, hr, hw, _⟩ := (h.ok q.Id v).1 hv
    exact ⟨r, hr, hw⟩
  · rintro ⟨r, hr, hw⟩
    cases hg : getM G q.Id with
    | none => exact absurd hw (h.none hg r hr)
    | some v => exact ⟨v, rfl⟩
end Go.Fw

set_option maxRecDepth 20000
namespace Go.Fw
open Go.Proofs

def lexle (a b : Report) : Prop := a.Made < b.Made ∨ (a.Made = b.Made ∧ a.Id ≤ b.Id)
theorem lexle.refl (a : Report) : lexle a a := .inr ⟨rfl, Int.le_refl _⟩
theorem lexle.trans {a b c : Report} (h : lexle a b) (h' : lexle b c) : lexle a c := by unfold lexle at *; omega
theorem lexle.total (a b : Report) : lexle a b ∨ lexle b a := by unfold lexle; omega
theorem lexle.anti {a b : Report} (h : lexle a b) (h' : lexle b a) : a.Id = b.Id := by unfold lexle at *; omega
theorem exists_max (P : Report → Prop) : ∀ (S : List Report), (∃ r ∈ S, P r) → ∃ r ∈ S, P r ∧ ∀ r' ∈ S, P r' → lexle r' r
  | [], ⟨r, hr, _⟩ => by simp at hr
  | x :: S, ⟨r, hr, hp⟩ => by
    by_cases hS : ∃ r ∈ S, P r
    · obtain ⟨m, hm, hmp, hml⟩ := exists_max P S hS
      by_cases hx : P x ∧ lexle m x
      · refine ⟨x, by simp, hx.1, fun y hy hyp => ?_⟩
        rcases List.mem_cons.1 hy with rfl | hy
        · exact lexle.refl _
        · exact (hml y hy hyp).trans hx.2
      · refine ⟨m, by simp [hm], hmp, fun y hy hyp => ?_⟩
        rcases List.mem_cons.1 hy with rfl | hy
        · rcases lexle.total y m with h | h
          · exact h
          · exact absurd ⟨hyp, h⟩ hx
        · exact hml y hy hyp
    · rcases List.mem_cons.1 hr with rfl | hr
      · refine ⟨r, by simp, hp, fun y hy hyp => ?_⟩
        rcases List.mem_cons.1 hy with rfl | hy
        · exact lexle.refl _
        · exact absurd ⟨y, hy, hyp⟩ hS
      · exact absurd ⟨r, hr, hp⟩ hS
def CC (K : List Report) (G : IM) (r : Report) (n : Int) : Prop := U8.i r.Kind = 8 ∧ aimsB K r = true ∧ factB (ofR K r) = true ∧ inB 0 (mostI (U8.i (ofR K r).Kind)) [r.Cents] = true ∧ (getM G r.Id).isSome = false ∧ (getM G (ofR K r).Id).isSome = false ∧ (ofR K r).Id = n
theorem CC.one {K : List Report} {G : IM} {r : Report} {n m : Int} (h : CC K G r n) (h' : CC K G r m) : n = m := h.2.2.2.2.2.2.symm.trans h'.2.2.2.2.2.2
structure CInv (K : List Report) (G : IM) (S : List Report) (F : IM) : Prop where
  nd : NodupM F
  ok : ∀ n v, getM F n = some v ↔ ∃ r ∈ S, CC K G r n ∧ r.Id = v ∧ ∀ r' ∈ S, CC K G r' n → lexle r' r
theorem CInv.nil (K : List Report) (G : IM) : CInv K G [] [] := ⟨by simp [NodupM], fun n v => by simp [getM, findK]⟩
theorem CInv.none {K S : List Report} {G F : IM} (h : CInv K G S F) {n : Int} (hg : getM F n = none) : ∀ r ∈ S, ¬ CC K G r n := by
  intro r hr hw
  obtain ⟨m, hm, hmp, hml⟩ := exists_max (fun r => CC K G r n) S ⟨r, hr, hw⟩
  have := (h.ok n m.Id).2 ⟨m, hm, hmp, rfl, hml⟩
  rw [hg] at this; cases this
theorem CInv.skip {K S : List Report} {G F : IM} (h : CInv K G S F) (r : Report) (hr : ∀ n, ¬ CC K G r n) : CInv K G (S ++ [r]) F := by
  refine ⟨h.nd, fun n v => (h.ok n v).trans ?_⟩
  constructor
  · rintro ⟨x, hx, hw, hv, hl⟩
    refine ⟨x, by simp [hx], hw, hv, fun y hy hyw => ?_⟩
    rcases List.mem_append.1 hy with hy | hy
    · exact hl y hy hyw
    · simp at hy; subst hy; exact absurd hyw (hr n)
  · rintro ⟨x, hx, hw, hv, hl⟩
    rcases List.mem_append.1 hx with hx | hx
    · exact ⟨x, hx, hw, hv, fun y hy hyw => hl y (by simp [hy]) hyw⟩
    · simp at hx; subst hx; exact absurd hw (hr n)
theorem CInv.put {K S : List Report} {G F : IM} (h : CInv K G S F) {r : Report} {n0 : Int} (hr : CC K G r n0) (hl : ∀ b ∈ S, getM F n0 = some b.Id → lexle b r) (hne : ∀ x ∈ S, x.Id ≠ r.Id) : CInv K G (S ++ [r]) (putM F n0 r.Id) := by
  have hall : ∀ y ∈ S, CC K G y n0 → lexle y r := fun y hy hyw => by
    cases hg : getM F n0 with
    | none => exact absurd hyw (h.none hg y hy)
    | some u =>
      obtain ⟨z, hz1, _, rfl, hz⟩ := (h.ok n0 u).1 hg
      exact (hz y hy hyw).trans (hl z hz1 hg)
  refine ⟨putM_nodup h.nd _ _, fun n v => ?_⟩
  rw [getM_put]
  split
  · rename_i hn; subst hn
    constructor
    · intro hv
      cases hv
      refine ⟨r, by simp, hr, rfl, fun y hy hyw => ?_⟩
      rcases List.mem_append.1 hy with hy | hy
      · exact hall y hy hyw
      · simp at hy; subst hy; exact lexle.refl _
    · rintro ⟨x, hx, hw, rfl, hl'⟩
      rcases List.mem_append.1 hx with hx | hx
      · exact absurd ((hall x hx hw).anti (hl' r (by simp) hr)) (hne x hx)
      · simp at hx; subst hx; rfl
  · rename_i hn
    rw [h.ok n v]
    constructor
    · rintro ⟨x, hx, hw, hv, hl'⟩
      refine ⟨x, by simp [hx], hw, hv, fun y hy hyw => ?_⟩
      rcases List.mem_append.1 hy with hy | hy
      · exact hl' y hy hyw
      · simp at hy; subst hy; exact absurd (hr.one hyw) hn
    · rintro ⟨x, hx, hw, hv, hl'⟩
      rcases List.mem_append.1 hx with hx | hx
      · exact ⟨x, hx, hw, hv, fun y hy hyw => hl' y (by simp [hy]) hyw⟩
      · simp at hx; subst hx; exact absurd (hr.one hw) hn
theorem CInv.keep {K S : List Report} {G F : IM} (h : CInv K G S F) {r b : Report} {n0 : Int} (hr : CC K G r n0) (hb : b ∈ S) (hg : getM F n0 = some b.Id) (hl : lexle r b) (hne : ∀ x ∈ S, x.Id ≠ r.Id) (hid : ∀ x ∈ S, x.Id = b.Id → x = b) : CInv K G (S ++ [r]) F := by
  refine ⟨h.nd, fun n v => (h.ok n v).trans ?_⟩
  constructor
  · rintro ⟨x, hx, hw, hv, hl'⟩
    refine ⟨x, by simp [hx], hw, hv, fun y hy hyw => ?_⟩
    rcases List.mem_append.1 hy with hy | hy
    · exact hl' y hy hyw
    · simp at hy; subst hy
      have := hr.one hyw; subst this
      have h2 := (h.ok n0 v).2 ⟨x, hx, hw, hv, hl'⟩
      rw [hg] at h2; cases h2
      rw [hid x hx hv]; exact hl
  · rintro ⟨x, hx, hw, hv, hl'⟩
    rcases List.mem_append.1 hx with hx | hx
    · exact ⟨x, hx, hw, hv, fun y hy hyw => hl' y (by simp [hy]) hyw⟩
    · simp at hx; subst hx
      have := hr.one hw; subst this
      obtain ⟨z, hz1, hz2, hz3, hz⟩ := (h.ok n0 b.Id).1 hg
      have := hid z hz1 hz3; subst this
      exact absurd ((hl' z (by simp [hz1]) hz2).anti hl) (hne z hz1)
theorem CInv.perm {K S S' : List Report} {G F : IM} (h : CInv K G S F) (hp : S.Perm S') : CInv K G S' F :=
  ⟨h.nd, fun n v => (h.ok n v).trans ⟨fun ⟨x, hx, hw, hv, hl⟩ => ⟨x, hp.mem_iff.1 hx, hw, hv, fun y hy => hl y (hp.mem_iff.2 hy)⟩, fun ⟨x, hx, hw, hv, hl⟩ => ⟨x, hp.mem_iff.2 hx, hw, hv, fun y hy => hl y (hp.mem_iff.1 hy)⟩⟩⟩
theorem CInv.unique {K S : List Report} {G F F' : IM} (h : CInv K G S F) (h' : CInv K G S F') : F.Perm F' :=
  perm_M h.nd h'.nd fun n => opt_ext fun v => (h.ok n v).trans (h'.ok n v).symm
def condC (l : List Report) (id : Int) (q x : Report) : Prop := U8.i x.Kind = 8 ∧ x.Of = id ∧ aimsB l x = true ∧ ¬ withdrawnI l x.Id x ≥ 0 ∧ centsB (U8.i q.Kind) x.Cents = true
theorem corrStep_no {l : List Report} {id : Int} {q x : Report} {b : Option Report} (h : ¬ condC l id q x) : corrStep l id q b x = b := by
  unfold corrStep
  rw [if_pos]
  simp only [Bool.or_eq_true, bne_iff_ne, Bool.not_eq_true', decide_eq_true_eq]
  refine Classical.byContradiction fun hno => h ?_
  simp only [not_or, Classical.not_not, Bool.not_eq_false] at hno
  exact ⟨hno.1, hno.2.1, hno.2.2.1, hno.2.2.2.1, hno.2.2.2.2⟩
theorem corrStep_yes {l : List Report} {id : Int} {q x : Report} {b : Option Report} (h : condC l id q x) : corrStep l id q b x = match b with
    | none => some x
    | some y => if decide (x.Made > y.Made) || ((x.Made == y.Made) && decide (x.Id > y.Id)) then some x else some y := by
  unfold corrStep
  refine if_neg ?_
  simp only [Bool.or_eq_true, bne_iff_ne, Bool.not_eq_true', decide_eq_true_eq]
  obtain ⟨h1, h2, h3, h4, h5⟩ := h
  rintro (h | h | h | h | h)
  · exact h h1
  · exact h h2
  · rw [h3] at h; cases h
  · exact h4 h
  · rw [h5] at h; cases h
theorem corr_fold (l : List Report) (id : Int) (q : Report) : ∀ (m : List Report) (b : Option Report),
    (m.foldl (corrStep l id q) b = b ∧ ∀ x ∈ m, condC l id q x → ∃ y, b = some y ∧ lexle x y) ∨
    ∃ c ∈ m, condC l id q c ∧ m.foldl (corrStep l id q) b = some c ∧ (∀ y, b = some y → lexle y c) ∧ ∀ y ∈ m, condC l id q y → lexle y c
  | [], b => .inl ⟨rfl, by simp⟩
  | z :: m, b => by
    simp only [List.foldl_cons]
    by_cases hc : condC l id q z
    · have hst : corrStep l id q b z = some z ∧ (∀ y, b = some y → lexle y z) ∨ ∃ y, b = some y ∧ corrStep l id q b z = b ∧ lexle z y := by
        rw [corrStep_yes hc]
        cases b with
        | none => exact .inl ⟨rfl, fun y h => by cases h⟩
        | some y =>
          simp only
          split
          · rename_i h
            refine .inl ⟨rfl, fun y' h' => ?_⟩
            cases h'
            simp only [Bool.or_eq_true, Bool.and_eq_true, beq_iff_eq, decide_eq_true_eq] at h
            unfold lexle; omega
          · rename_i h
            refine .inr ⟨y, rfl, rfl, ?_⟩
            simp only [Bool.or_eq_true, Bool.and_eq_true, beq_iff_eq, decide_eq_true_eq] at h
            unfold lexle; omega
      rcases hst with ⟨e, hb⟩ | ⟨y0, hb0, e, hzy⟩
      · rw [e]
        rcases corr_fold l id q m (some z) with ⟨h1, h2⟩ | ⟨c, hc1, hc2, hc3, hc4, hc5⟩
        · refine .inr ⟨z, by simp, hc, h1, hb, fun y hy hyc => ?_⟩
          rcases List.mem_cons.1 hy with rfl | hy
          · exact lexle.refl _
          · obtain ⟨u, hu, hl⟩ := h2 y hy hyc
            cases hu; exact hl
        · refine .inr ⟨c, by simp [hc1], hc2, hc3, fun y hy => (hb y hy).trans (hc4 z rfl), fun y hy hyc => ?_⟩
          rcases List.mem_cons.1 hy with rfl | hy
          · exact hc4 _ rfl
          · exact hc5 y hy hyc
      · rw [e]
        rcases corr_fold l id q m b with ⟨h1, h2⟩ | ⟨c, hc1, hc2, hc3, hc4, hc5⟩
        · refine .inl ⟨h1, fun y hy hyc => ?_⟩
          rcases List.mem_cons.1 hy with rfl | hy
          · exact ⟨y0, hb0, hzy⟩
          · exact h2 y hy hyc
        · refine .inr ⟨c, by simp [hc1], hc2, hc3, hc4, fun y hy hyc => ?_⟩
          rcases List.mem_cons.1 hy with rfl | hy
          · exact hzy.trans (hc4 _ hb0)
          · exact hc5 y hy hyc
    · rw [corrStep_no hc]
      rcases corr_fold l id q m b with ⟨h1, h2⟩ | ⟨c, hc1, hc2, hc3, hc4, hc5⟩
      · refine .inl ⟨h1, fun y hy hyc => ?_⟩
        rcases List.mem_cons.1 hy with rfl | hy
        · exact absurd hyc hc
        · exact h2 y hy hyc
      · refine .inr ⟨c, by simp [hc1], hc2, hc3, hc4, fun y hy hyc => ?_⟩
        rcases List.mem_cons.1 hy with rfl | hy
        · exact absurd hyc hc
        · exact hc5 y hy hyc
theorem corrected_fold (K : List Report) (id : Int) (q : Report) : (correctedO K id q = none ∧ ∀ x ∈ K, ¬ condC K id q x) ∨ ∃ c ∈ K, condC K id q c ∧ correctedO K id q = some c ∧ ∀ y ∈ K, condC K id q y → lexle y c := by
  rcases corr_fold K id q K none with ⟨h1, h2⟩ | ⟨c, h1, h2, h3, _, h5⟩
  · exact .inl ⟨h1, fun x hx hc => by obtain ⟨y, hy, _⟩ := h2 x hx hc; cases hy⟩
  · exact .inr ⟨c, h1, h2, h3, h5⟩
theorem cents_in {k n : Int} (h1 : 1 ≤ k) (h7 : k ≤ 7) : centsB k n = inB 0 (mostI k) [n] := by
  obtain ⟨m, rfl⟩ : ∃ m : Nat, k = m := ⟨k.toNat, by omega⟩
  rw [Bool.eq_iff_iff]
  match m, (by omega : 1 ≤ m), (by omega : m ≤ 7) with
  | 1, _, _ => simp [centsB, inB, within, mostI]; omega
  | 2, _, _ => simp [centsB, inB, within, mostI]
  | 3, _, _ => simp [centsB, inB, within, mostI]
  | 4, _, _ => simp [centsB, inB, within, mostI]
  | 5, _, _ => simp [centsB, inB, within, mostI]
  | 6, _, _ => simp [centsB, inB, within, mostI]
  | 7, _, _ => simp [centsB, inB, within, mostI]; omega
theorem valid_kind {x : Report} (h : validB x = true) : 1 ≤ U8.i x.Kind ∧ U8.i x.Kind ≤ 9 := by
  simp only [validB, within, Bool.and_eq_true, decide_eq_true_eq] at h
  omega
theorem cc_iff {K : List Report} (hK : Good K) {G : IM} (hG : WdInv K K G) {q : Report} (hq : q ∈ K) {r : Report} (hr : r ∈ K) : CC K G r q.Id ↔ condC K q.Id q r ∧ factB q = true ∧ ¬ withdrawnI K q.Id q ≥ 0 := by
  have hfact : ∀ {x : Report}, factB x = true → U8.i x.Kind ≤ 7 := fun h => by simpa [factB] using h
  have gs : ∀ {x : Report}, x ∈ K → ((getM G x.Id).isSome = false ↔ ¬ withdrawnI K x.Id x ≥ 0) := fun hx => by rw [gone_some hK hG hx]; simp
  constructor
  · rintro ⟨h1, h2, h3, h4, h5, h6, h7⟩
    obtain ⟨a1, a2, a3⟩ := aims_of h2
    have e : ofR K r = q := hK.nd.eq a2 hq h7
    rw [e] at h3 h4 h6 a3
    refine ⟨⟨h1, a3.symm, h2, (gs hr).1 h5, ?_⟩, h3, (gs hq).1 h6⟩
    rw [cents_in (valid_kind (hK.ok q hq)).1 (hfact h3)]; exact h4
  · rintro ⟨⟨h1, h2, h3, h4, h5⟩, h6, h7⟩
    obtain ⟨a1, a2, a3⟩ := aims_of h3
    have e : ofR K r = q := hK.nd.eq a2 hq (a3.trans h2)
    refine ⟨h1, h3, by rw [e]; exact h6, ?_, (gs hr).2 h4, by rw [e]; exact (gs hq).2 h7, by rw [e]⟩
    rw [e, ← cents_in (valid_kind (hK.ok q hq)).1 (hfact h6)]; exact h5
def fixedL (K : List Report) : IM := K.filterMap fun q => if factB q && !decide (withdrawnI K q.Id q ≥ 0) then (correctedO K q.Id q).map fun c => (q.Id, c.Id) else none
theorem fixedL_inv {K : List Report} (hK : Good K) {G : IM} (hG : WdInv K K G) : CInv K G K (fixedL K) := by
  have hnd : NodupM (fixedL K) := nodup_filterMap hK.nd _ (fun q p h => by
    split at h
    · obtain ⟨c, _, rfl⟩ := Option.map_eq_some_iff.1 h; rfl
    · cases h)
  refine ⟨hnd, fun n v => ?_⟩
  rw [getM_mem hnd]
  simp only [fixedL, List.mem_filterMap]
  constructor
  · rintro ⟨q, hq, h⟩
    split at h
    · rename_i h0
      simp only [Bool.and_eq_true, Bool.not_eq_true', decide_eq_false_iff_not] at h0
      obtain ⟨c, hc, he⟩ := Option.map_eq_some_iff.1 h
      simp only [Prod.mk.injEq] at he
      obtain ⟨rfl, rfl⟩ := he
      rcases corrected_fold K q.Id q with ⟨h1, _⟩ | ⟨c', h1, h2, h3, h4⟩
      · rw [h1] at hc; cases hc
      · rw [h3] at hc; cases hc
        exact ⟨c, h1, (cc_iff hK hG hq h1).2 ⟨h2, h0⟩, rfl, fun r' hr' hw => h4 r' hr' ((cc_iff hK hG hq hr').1 hw).1⟩
    · cases h
  · rintro ⟨r, hr, hw, rfl, hl⟩
    obtain ⟨_, hq, _⟩ := aims_of hw.2.1
    have hn : (ofR K r).Id = n := hw.2.2.2.2.2.2
    refine ⟨ofR K r, hq, ?_⟩
    rw [← hn] at hw hl
    have hc := (cc_iff hK hG hq hr).1 hw
    rw [if_pos (by simp only [Bool.and_eq_true, Bool.not_eq_true', decide_eq_false_iff_not]; exact hc.2)]
    rcases corrected_fold K (ofR K r).Id (ofR K r) with ⟨h1, h2⟩ | ⟨c', h1, h2, h3, h4⟩
    · exact absurd hc.1 (h2 r hr)
    · have e1 := h4 r hr hc.1
      have e2 := hl c' h1 ((cc_iff hK hG hq h1).2 ⟨h2, hc.2⟩)
      rw [h3, Option.map_some, hn, e2.anti e1]
theorem fixed_get {K : List Report} (hK : Good K) {q : Report} (hq : q ∈ K) : getM (fixedL K) q.Id = if factB q && !decide (withdrawnI K q.Id q ≥ 0) then (correctedO K q.Id q).map Report.Id else none := by
  have hnd := (fixedL_inv hK (goneL_inv hK)).nd
  refine opt_ext fun v => ?_
  rw [getM_mem hnd]
  simp only [fixedL, List.mem_filterMap]
  constructor
  · rintro ⟨q', hq', h⟩
    split at h
    · rename_i h0
      obtain ⟨c, hc, he⟩ := Option.map_eq_some_iff.1 h
      simp only [Prod.mk.injEq] at he
      have := hK.nd.eq hq' hq he.1; subst this
      rw [if_pos h0, hc, Option.map_some, he.2]
    · cases h
  · intro h
    split at h
    · rename_i h0
      obtain ⟨c, hc, rfl⟩ := Option.map_eq_some_iff.1 h
      exact ⟨q, hq, by rw [if_pos h0, hc]; rfl⟩
    · cases h
end Go.Fw

set_option maxRecDepth 20000
namespace Go.Fw
open Go.Proofs

theorem chk_ok (r : Report) : CallA Tryz.prog GT 101 [Report.av r] (.bool (!validB r)) := by
  refine callA_of Tryz.func101 rfl (by simp [Tryz.f101]) rfl fun B ac hB hBd hG hS => ?_
  refine runs_seq ?_
  refine reg [] [1] hG hS (env := [(1, .box 0 0)]) (own := [.box none 73 [.int .i64 r.Id, .int .i64 r.Source, .int .i64 r.Account, .int .i64 r.Made, .int .i64 r.About, .int .u8 (U8.i r.Kind), .int .i64 r.Cents, .int .i64 r.Of]]) (obs := []) (by kernel_rfl) (trivial) fun ac wd hS => ?_
  refine runs_seq ?_
  refine reg [(1, .av (.bool (validB r)))] [2] hG hS (env := [(2, .bool (!validB r))]) (own := [.box none 73 [.int .i64 r.Id, .int .i64 r.Source, .int .i64 r.Account, .int .i64 r.Made, .int .i64 r.About, .int .u8 (U8.i r.Kind), .int .i64 r.Cents, .int .i64 r.Of]]) (obs := [CallA Tryz.prog GT 102 [Report.av r] (.bool (validB r))]) (by kernel_rfl) ((right_ok _)) fun ac wd hS => ?_
  rw [show (.bool (!validB r) : AV) = .bool (!validB r) from by (first | (simp []; done) | (simp []; omega) | (congr 1; simp only []; grind))]
  exact retz Tryz.func101 rfl hB hBd hS (by kernel_rfl) rfl
theorem index_chk (l : List Report)  (hn : l.length ≤ 65536) : CallA Tryz.prog GT 42 [.sl (l.map Report.av), .fn (.func 101) [] []] (.int .i64 (findI (fun x => !validB x) l 0)) := by
  refine callA_of Tryz.func42 rfl (by simp [Tryz.f42]) rfl fun B ac hB hBd hG hS => ?_
  refine runs_seq ?_
  refine reg [] [0, 1] hG hS (env := [(0, .sl (l.map Report.av)), (1, .fn (.func 101) [] [])]) (own := []) (obs := []) (by kernel_rfl) (trivial) fun ac wd hS => ?_
  refine runs_seq ?_
  refine runs_seq ?_
  refine reg [(1, .is ((l.length : Nat) : Int))] [0, 1, 7, 8] hG hS (env := [(0, .sl (l.map Report.av)), (1, .fn (.func 101) [] []), (7, .int .i64 ((l.length : Nat) : Int)), (8, .int .i64 0)]) (own := []) (obs := [((l.map Report.av).length : Int) = ((l.length : Nat) : Int)]) (by kernel_rfl) (len_map) fun ac wd hS => ?_
  refine runs_block ?_
  refine runs_loop ?_
  have hinv : ∃ (pre rest : List Report), l = pre ++ rest ∧ (findI (fun x => !validB x) l 0 = findI (fun x => !validB x) rest ((pre.length : Nat) : Int)) ∧ Sat B ⟨Tryz.f42.ntmps, [(0, .sl (l.map Report.av)), (1, .fn (.func 101) [] []), (7, .int .i64 ((l.length : Nat) : Int)), (8, .int .i64 ((pre.length : Nat) : Int))], []⟩ ac wd := ⟨[], l, rfl, rfl, hS.sel [] [0, 1, 7, 8] (by kernel_rfl)⟩
  clear hS
  obtain ⟨pre, rest, hl, hr, hS⟩ := hinv
  induction rest generalizing pre  ac wd with
  | nil =>
    refine runs_seq ?_
    refine reg [(0, .dec false)] [0, 1, 7, 8, 9] hG hS (env := [(0, .sl (l.map Report.av)), (1, .fn (.func 101) [] []), (7, .int .i64 ((l.length : Nat) : Int)), (8, .int .i64 ((pre.length : Nat) : Int)), (9, .bool false)]) (own := []) (obs := [decide (((pre.length : Nat) : Int) < ((l.length : Nat) : Int)) = false]) (by kernel_rfl) ((lt_no hl)) fun ac wd hS => ?_
    refine runs_seq ?_
    refine cond_no hS (c := false) (by kernel_rfl) rfl ?_
    refine runs_exit (by rfl) ?_
    refine runs_seq ?_
    refine reg [] [4] hG hS (env := [(4, .int .i64 (-1))]) (own := []) (obs := []) (by kernel_rfl) (trivial) fun ac wd hS => ?_
    rw [hr]; rw [show (AV.int .i64 (findI (fun x => !validB x) [] ((pre.length : Nat) : Int))) = .int .i64 (-1) from by simp [findI]]
    exact retz Tryz.func42 rfl hB hBd hS (by kernel_rfl) rfl
  | cons x rest ihx =>
    refine runs_seq ?_
    refine reg [(0, .dec true)] [0, 1, 7, 8, 9] hG hS (env := [(0, .sl (l.map Report.av)), (1, .fn (.func 101) [] []), (7, .int .i64 ((l.length : Nat) : Int)), (8, .int .i64 ((pre.length : Nat) : Int)), (9, .bool true)]) (own := []) (obs := [decide (((pre.length : Nat) : Int) < ((l.length : Nat) : Int)) = true]) (by kernel_rfl) ((lt_yes hl)) fun ac wd hS => ?_
    refine runs_seq ?_
    refine cond_yes hS (c := true) (by kernel_rfl) rfl ?_
    refine runs_skip ?_
    refine runs_seq ?_
    refine runs_block ?_
    refine runs_seq ?_
    refine reg [] [0, 1, 7, 8, 5] hG hS (env := [(0, .sl (l.map Report.av)), (1, .fn (.func 101) [] []), (7, .int .i64 ((l.length : Nat) : Int)), (8, .int .i64 ((pre.length : Nat) : Int)), (5, .int .i64 ((pre.length : Nat) : Int))]) (own := []) (obs := []) (by kernel_rfl) (trivial) fun ac wd hS => ?_
    refine runs_seq ?_
    rcases Bool.eq_false_or_eq_true (!validB x) with hb1 | hb1
    · skip
      refine reg [(3, .av (Report.av x)), (5, .av (.bool (!validB x)))] [0, 1, 7, 8, 5, 16] hG hS (env := [(0, .sl (l.map Report.av)), (1, .fn (.func 101) [] []), (7, .int .i64 ((l.length : Nat) : Int)), (8, .int .i64 ((pre.length : Nat) : Int)), (5, .int .i64 ((pre.length : Nat) : Int)), (16, .bool (!validB x))]) (own := []) (obs := [0 ≤ (((pre.length : Nat) : Int) : Int) ∧ (l.map Report.av)[(((pre.length : Nat) : Int) : Int).toNat]? = some (Report.av x), CallA Tryz.prog GT 101 [Report.av x] (.bool (!validB x))]) (by kernel_rfl) (⟨(idx_ok hl), (chk_ok x)⟩) fun ac wd hS => ?_
      refine cond_yes hS (c := !validB x) (by kernel_rfl) (hb1) ?_
      refine runs_seq ?_
      refine reg [] [4] hG hS (env := [(4, .int .i64 ((pre.length : Nat) : Int))]) (own := []) (obs := []) (by kernel_rfl) (trivial) fun ac wd hS => ?_
      rw [hr]; rw [show (AV.int .i64 (findI (fun x => !validB x) (x :: rest) ((pre.length : Nat) : Int))) = .int .i64 ((pre.length : Nat) : Int) from by simp [findI, hb1]]
      exact retz Tryz.func42 rfl hB hBd hS (by kernel_rfl) rfl
    · skip
      refine reg [(3, .av (Report.av x)), (5, .av (.bool (!validB x)))] [0, 1, 7, 8, 5, 16] hG hS (env := [(0, .sl (l.map Report.av)), (1, .fn (.func 101) [] []), (7, .int .i64 ((l.length : Nat) : Int)), (8, .int .i64 ((pre.length : Nat) : Int)), (5, .int .i64 ((pre.length : Nat) : Int)), (16, .bool (!validB x))]) (own := []) (obs := [0 ≤ (((pre.length : Nat) : Int) : Int) ∧ (l.map Report.av)[(((pre.length : Nat) : Int) : Int).toNat]? = some (Report.av x), CallA Tryz.prog GT 101 [Report.av x] (.bool (!validB x))]) (by kernel_rfl) (⟨(idx_ok hl), (chk_ok x)⟩) fun ac wd hS => ?_
      refine cond_no hS (c := !validB x) (by kernel_rfl) (hb1) ?_
      refine runs_skip ?_
      refine runs_inBlock ?_
      refine reg [(0, .is (((pre ++ [x]).length : Nat) : Int))] [0, 1, 7, 8] hG hS (env := [(0, .sl (l.map Report.av)), (1, .fn (.func 101) [] []), (7, .int .i64 ((l.length : Nat) : Int)), (8, .int .i64 (((pre ++ [x]).length : Nat) : Int))]) (own := []) (obs := [IntKind.i64.wrap (((pre.length : Nat) : Int) + 1) = (((pre ++ [x]).length : Nat) : Int)]) (by kernel_rfl) ((next_len hl hn)) fun ac wd hS => ?_
      refine runs_inLoop ?_
      exact ihx _ _ (pre ++ [x])  (next_eq hl) (by rw [hr]; simp [findI, hb1]) (hS.sel [] [0, 1, 7, 8] (by kernel_rfl))
theorem contains_chk (l : List Report) (hn : l.length ≤ 65536) : CallA Tryz.prog GT 100 [.sl (l.map Report.av), .fn (.func 101) [] []] (.bool (l.any fun x => !validB x)) := by
  refine callA_of Tryz.func100 rfl (by simp [Tryz.f100]) rfl fun B ac hB hBd hG hS => ?_
  refine runs_seq ?_
  refine reg [] [0, 1] hG hS (env := [(0, .sl (l.map Report.av)), (1, .fn (.func 101) [] [])]) (own := []) (obs := []) (by kernel_rfl) (trivial) fun ac wd hS => ?_
  refine runs_seq ?_
  refine reg [(2, .av (.int .i64 (findI (fun x => !validB x) l 0)))] [4] hG hS (env := [(4, .bool (decide ((findI (fun x => !validB x) l 0) ≥ 0)))]) (own := []) (obs := [CallA Tryz.prog GT 42 [.sl (l.map Report.av), .fn (.func 101) [] []] (.int .i64 (findI (fun x => !validB x) l 0))]) (by kernel_rfl) ((index_chk l hn)) fun ac wd hS => ?_
  rw [show (AV.bool (l.any fun x => !validB x)) = .bool (decide ((findI (fun x => !validB x) l 0) ≥ 0)) from by rw [findI_any _ _ _ (by omega)]]
  exact retz Tryz.func100 rfl hB hBd hS (by kernel_rfl) rfl
def putD (D : List Report) (x : Report) : List Report := putK Report.Id D x
theorem mem_putK {α : Type} {kf : α → Int} {L : List α} {a b : α} (h : b ∈ putK kf L a) : b = a ∨ b ∈ L := by
  unfold putK at h
  split at h
  · simp at h; exact h.symm
  · simp only [setK, List.mem_map] at h
    obtain ⟨c, hc, he⟩ := h
    split at he
    · exact .inl he.symm
    · exact .inr (he ▸ hc)
theorem get_putD (D : List Report) (x : Report) (n : Int) : getR (putD D x) n = if x.Id = n then some x else getR D n := findK_put x n
theorem same_iff {x y : Report} : sameI x y = true ↔ x = y := by
  simp only [sameI, decide_eq_true_eq]
  constructor
  · intro h
    simp only [List.cons.injEq, and_true] at h
    obtain ⟨h1, h2, h3, h4, h5, h6, h7, h8⟩ := h
    cases x; cases y
    simp only [Report.mk.injEq]
    exact ⟨h1, h2, h3, h4, h5, U8.inj.1 h6, h7, h8⟩
  · rintro rfl; rfl
theorem pair_iff {x y : Report} : pairB x y = true ↔ (x.Id = y.Id → x = y) := by
  unfold pairB
  cases h : sameI x y
  · have : x ≠ y := fun he => by rw [same_iff.2 he] at h; cases h
    simp [this]
  · have := same_iff.1 h
    simp [this]
theorem pairs_go : ∀ (l pre : List Report), pairsB pre l = true ↔ (∀ x ∈ l, ∀ y ∈ pre, pairB x y = true) ∧ l.Pairwise fun y x => pairB x y = true
  | [], pre => by simp [pairsB]
  | x :: l, pre => by
    simp only [pairsB, Bool.and_eq_true, List.all_eq_true, pairs_go l (pre ++ [x]), List.pairwise_cons]
    constructor
    · rintro ⟨h1, h2, h3⟩
      refine ⟨fun z hz y hy => ?_, fun z hz => h2 z hz x (by simp), h3⟩
      rcases List.mem_cons.1 hz with rfl | hz
      · exact h1 y hy
      · exact h2 z hz y (by simp [hy])
    · rintro ⟨h1, h2, h3⟩
      refine ⟨fun y hy => h1 x (by simp) y hy, fun z hz y hy => ?_, h3⟩
      rcases List.mem_append.1 hy with hy | hy
      · exact h1 z (by simp [hz]) y hy
      · simp at hy; subst hy; exact h2 z hz
theorem pairs_iff (l : List Report) : pairsB [] l = true ↔ ∀ x ∈ l, ∀ y ∈ l, x.Id = y.Id → x = y := by
  rw [pairs_go]
  constructor
  · rintro ⟨h0, h⟩
    clear h0
    induction l with
    | nil => simp
    | cons z l ih =>
      obtain ⟨h1, h2⟩ := List.pairwise_cons.1 h
      intro x hx y hy he
      rcases List.mem_cons.1 hx with h3 | h3 <;> rcases List.mem_cons.1 hy with h4 | h4
      · rw [h3, h4]
      · rw [h3] at he ⊢; exact (pair_iff.1 (h1 y h4) he.symm).symm
      · rw [h4] at he ⊢; exact pair_iff.1 (h1 x h3) he
      · exact ih h2 x h3 y h4 he
  · intro h
    refine ⟨by simp, ?_⟩
    induction l with
    | nil => exact List.Pairwise.nil
    | cons z l ih => exact List.pairwise_cons.2 ⟨fun y hy => pair_iff.2 fun he => h y (by simp [hy]) z (by simp) he, ih fun x hx y hy => h x (by simp [hx]) y (by simp [hy])⟩
theorem Fine.eq {l : List Report} (h : Fine l) {x y : Report} (hx : x ∈ l) (hy : y ∈ l) (he : x.Id = y.Id) : x = y := (pairs_iff l).1 h.pair x hx y hy he
structure ChkInv (pre D : List Report) : Prop where
  nd : NodupR D
  get : ∀ y ∈ pre, getR D y.Id = some y
  sub : ∀ y ∈ D, y ∈ pre
theorem ChkInv.step {pre D : List Report} (h : ChkInv pre D) (x : Report) (hx : ∀ q, getR D x.Id = some q → q = x) : ChkInv (pre ++ [x]) (putD D x) := by
  refine ⟨putK_nodup (kf := Report.Id) h.nd x, fun y hy => ?_, fun y hy => ?_⟩
  · rw [get_putD]
    split
    · rename_i he
      rcases List.mem_append.1 hy with hy | hy
      · have := h.get y hy; rw [← he] at this; rw [hx y this]
      · simp at hy; rw [hy]
    · rename_i he
      rcases List.mem_append.1 hy with hy | hy
      · exact h.get y hy
      · simp at hy; subst hy; exact absurd rfl he
  · rcases mem_putK hy with rfl | hy
    · simp
    · simp [h.sub y hy]
theorem checkA_ok (l : List Report) (hn : l.length ≤ 65536) : CallA Tryz.prog GT 76 [.sl (l.map Report.av)] (.int .i64 (checkR l)) := by
  refine callA_of Tryz.func76 rfl (by simp [Tryz.f76]) rfl fun B ac hB hBd hG hS => ?_
  refine runs_seq ?_
  refine reg [] [0] hG hS (env := [(0, .sl (l.map Report.av))]) (own := []) (obs := []) (by kernel_rfl) (trivial) fun ac wd hS => ?_
  refine runs_seq ?_
  refine runs_seq ?_
  rcases Bool.eq_false_or_eq_true (decide (((l.length : Nat) : Int) > 60)) with hb1 | hb1
  · skip
    refine reg [(1, .is ((l.length : Nat) : Int)), (2, .dec true)] [0, 10] hG hS (env := [(0, .sl (l.map Report.av)), (10, .bool true)]) (own := []) (obs := [((l.map Report.av).length : Int) = ((l.length : Nat) : Int), decide (((l.length : Nat) : Int) > 60) = true]) (by kernel_rfl) (⟨len_map, hb1⟩) fun ac wd hS => ?_
    refine cond_yes hS (c := true) (by kernel_rfl) rfl ?_
    refine runs_seq ?_
    refine reg [] [2] hG hS (env := [(2, .int .i64 4)]) (own := []) (obs := []) (by kernel_rfl) (trivial) fun ac wd hS => ?_
    rw [show (.int .i64 (checkR l) : AV) = .int .i64 4 from by (try simp only [decide_eq_true_eq, decide_eq_false_iff_not] at hb1); simp only [checkR, hb1, if_true]]
    exact retz Tryz.func76 rfl hB hBd hS (by kernel_rfl) rfl
  · skip
    refine reg [(1, .is ((l.length : Nat) : Int)), (2, .dec false)] [0, 10] hG hS (env := [(0, .sl (l.map Report.av)), (10, .bool false)]) (own := []) (obs := [((l.map Report.av).length : Int) = ((l.length : Nat) : Int), decide (((l.length : Nat) : Int) > 60) = false]) (by kernel_rfl) (⟨len_map, hb1⟩) fun ac wd hS => ?_
    refine cond_no hS (c := false) (by kernel_rfl) rfl ?_
    refine runs_skip ?_
    refine runs_seq ?_
    refine runs_seq ?_
    rcases Bool.eq_false_or_eq_true (l.any fun x => !validB x) with hb2 | hb2
    · skip
      refine reg [(1, .av (.bool (l.any fun x => !validB x)))] [0, 12] hG hS (env := [(0, .sl (l.map Report.av)), (12, .bool (l.any fun x => !validB x))]) (own := []) (obs := [CallA Tryz.prog GT 100 [.sl (l.map Report.av), .fn (.func 101) [] []] (.bool (l.any fun x => !validB x))]) (by kernel_rfl) ((contains_chk _ hn)) fun ac wd hS => ?_
      refine cond_yes hS (c := l.any fun x => !validB x) (by kernel_rfl) (hb2) ?_
      refine runs_seq ?_
      refine reg [] [2] hG hS (env := [(2, .int .i64 30)]) (own := []) (obs := []) (by kernel_rfl) (trivial) fun ac wd hS => ?_
      rw [show (.int .i64 (checkR l) : AV) = .int .i64 30 from by (try simp only [decide_eq_true_eq, decide_eq_false_iff_not] at hb1); have h8 : (l.all validB) = false := (by rw [Bool.eq_false_iff]; intro h; simp only [List.all_eq_true] at h; simp only [List.any_eq_true] at hb2; obtain ⟨y, hy, h7⟩ := hb2; rw [h y hy] at h7; cases h7); simp only [checkR, hb1, if_false, h8, Bool.false_eq_true]]
      exact retz Tryz.func76 rfl hB hBd hS (by kernel_rfl) rfl
    · skip
      refine reg [(1, .av (.bool (l.any fun x => !validB x)))] [0, 12] hG hS (env := [(0, .sl (l.map Report.av)), (12, .bool (l.any fun x => !validB x))]) (own := []) (obs := [CallA Tryz.prog GT 100 [.sl (l.map Report.av), .fn (.func 101) [] []] (.bool (l.any fun x => !validB x))]) (by kernel_rfl) ((contains_chk _ hn)) fun ac wd hS => ?_
      refine cond_no hS (c := l.any fun x => !validB x) (by kernel_rfl) (hb2) ?_
      refine runs_skip ?_
      refine runs_seq ?_
      refine reg [] [0, 3] hG hS (env := [(0, .sl (l.map Report.av)), (3, .mp 0)]) (own := [.map [] []]) (obs := []) (by kernel_rfl) (trivial) fun ac wd hS => ?_
      refine runs_seq ?_
      refine runs_seq ?_
      refine reg [(1, .is ((l.length : Nat) : Int))] [3, 14, 15, 16] hG hS (env := [(3, .mp 0), (14, .sl (l.map Report.av)), (15, .int .i64 ((l.length : Nat) : Int)), (16, .int .i64 0)]) (own := [.map [] []]) (obs := [((l.map Report.av).length : Int) = ((l.length : Nat) : Int)]) (by kernel_rfl) (len_map) fun ac wd hS => ?_
      refine runs_block ?_
      refine runs_loop ?_
      have hinv : ∃ (pre rest : List Report) (D : List Report), l = pre ++ rest ∧ (ChkInv pre D) ∧ Sat B ⟨Tryz.f76.ntmps, [(3, .mp 0), (14, .sl (l.map Report.av)), (15, .int .i64 ((l.length : Nat) : Int)), (16, .int .i64 ((pre.length : Nat) : Int))], [.map (D.map idk) (D.map Report.av)]⟩ ac wd := ⟨[], l, [], rfl, ⟨by simp [NodupR], by simp, by simp⟩, hS.sel [0] [3, 14, 15, 16] (by kernel_rfl)⟩
      clear hS
      obtain ⟨pre, rest, D, hl, hi, hS⟩ := hinv
      induction rest generalizing pre D ac wd with
      | nil =>
        refine runs_seq ?_
        refine reg [(0, .dec false)] [3, 14, 15, 16, 17] hG hS (env := [(3, .mp 0), (14, .sl (l.map Report.av)), (15, .int .i64 ((l.length : Nat) : Int)), (16, .int .i64 ((pre.length : Nat) : Int)), (17, .bool false)]) (own := [.map (D.map idk) (D.map Report.av)]) (obs := [decide (((pre.length : Nat) : Int) < ((l.length : Nat) : Int)) = false]) (by kernel_rfl) ((lt_no hl)) fun ac wd hS => ?_
        refine runs_seq ?_
        refine cond_no hS (c := false) (by kernel_rfl) rfl ?_
        refine runs_exit (by rfl) ?_
        refine runs_seq ?_
        refine reg [] [2] hG hS (env := [(2, .int .i64 0)]) (own := [.map (D.map idk) (D.map Report.av)]) (obs := []) (by kernel_rfl) (trivial) fun ac wd hS => ?_
        rw [show (.int .i64 (checkR l) : AV) = .int .i64 0 from by (try simp only [decide_eq_true_eq, decide_eq_false_iff_not] at hb1); have h8 : (l.all validB) = true := (by simp only [List.all_eq_true]; intro y hy; simp only [List.any_eq_false] at hb2; have := hb2 y hy; simpa using this); have h6 : pairsB [] l = true := (by rw [pairs_iff]; intro y hy z hz he; rw [hl, List.append_nil] at hy hz; have h5 := hi.get y hy; rw [he, hi.get z hz] at h5; exact (Option.some.inj h5).symm); simp only [checkR, hb1, if_false, h8, if_true, h6]]
        exact retz Tryz.func76 rfl hB hBd hS (by kernel_rfl) rfl
      | cons x rest ihx =>
        refine runs_seq ?_
        refine reg [(0, .dec true)] [3, 14, 15, 16, 17] hG hS (env := [(3, .mp 0), (14, .sl (l.map Report.av)), (15, .int .i64 ((l.length : Nat) : Int)), (16, .int .i64 ((pre.length : Nat) : Int)), (17, .bool true)]) (own := [.map (D.map idk) (D.map Report.av)]) (obs := [decide (((pre.length : Nat) : Int) < ((l.length : Nat) : Int)) = true]) (by kernel_rfl) ((lt_yes hl)) fun ac wd hS => ?_
        refine runs_seq ?_
        refine cond_yes hS (c := true) (by kernel_rfl) rfl ?_
        refine runs_skip ?_
        refine runs_seq ?_
        refine runs_block ?_
        refine runs_seq ?_
        refine reg [(0, .av (Report.av x))] [3, 14, 15, 16, 5] hG hS (env := [(3, .mp 0), (14, .sl (l.map Report.av)), (15, .int .i64 ((l.length : Nat) : Int)), (16, .int .i64 ((pre.length : Nat) : Int)), (5, .box 1 0)]) (own := [.map (D.map idk) (D.map Report.av), .box none 73 [.int .i64 x.Id, .int .i64 x.Source, .int .i64 x.Account, .int .i64 x.Made, .int .i64 x.About, .int .u8 (U8.i x.Kind), .int .i64 x.Cents, .int .i64 x.Of]]) (obs := [0 ≤ (((pre.length : Nat) : Int) : Int) ∧ (l.map Report.av)[(((pre.length : Nat) : Int) : Int).toNat]? = some (Report.av x)]) (by kernel_rfl) ((idx_ok hl)) fun ac wd hS => ?_
        refine runs_seq ?_
        refine runs_seq ?_
        refine reg [(3, .av (.tup [Report.av ((getR D x.Id).getD zeroR), .bool ((getR D x.Id).isSome)]))] [3, 14, 15, 16, 5, 6, 7] hG hS (env := [(3, .mp 0), (14, .sl (l.map Report.av)), (15, .int .i64 ((l.length : Nat) : Int)), (16, .int .i64 ((pre.length : Nat) : Int)), (5, .box 1 0), (6, .box 2 0), (7, .bool ((getR D x.Id).isSome))]) (own := [.map (D.map idk) (D.map Report.av), .box none 73 [.int .i64 x.Id, .int .i64 x.Source, .int .i64 x.Account, .int .i64 x.Made, .int .i64 x.About, .int .u8 (U8.i x.Kind), .int .i64 x.Cents, .int .i64 x.Of], .box none 73 [.int .i64 (((getR D x.Id).getD zeroR).Id), .int .i64 (((getR D x.Id).getD zeroR).Source), .int .i64 (((getR D x.Id).getD zeroR).Account), .int .i64 (((getR D x.Id).getD zeroR).Made), .int .i64 (((getR D x.Id).getD zeroR).About), .int .u8 (U8.i ((getR D x.Id).getD zeroR).Kind), .int .i64 (((getR D x.Id).getD zeroR).Cents), .int .i64 (((getR D x.Id).getD zeroR).Of)]]) (obs := [LookOK Tryz.prog 3 (D.map idk) (D.map Report.av) (.int .i64 x.Id) (Report.av ((getR D x.Id).getD zeroR)) (.agg [.int .i64 0, .int .i64 0, .int .i64 0, .int .i64 0, .int .i64 0, .int .u8 0, .int .i64 0, .int .i64 0]) (getR D x.Id).isSome]) (by kernel_rfl) ((look_R hi.nd _)) fun ac wd hS => ?_
        refine runs_seq ?_
        rcases Bool.eq_false_or_eq_true ((getR D x.Id).isSome) with hb3 | hb3
        · skip
          rcases Bool.eq_false_or_eq_true (decide (([((getR D x.Id).getD zeroR).Id, ((getR D x.Id).getD zeroR).Source, ((getR D x.Id).getD zeroR).Account, ((getR D x.Id).getD zeroR).Made, ((getR D x.Id).getD zeroR).About, U8.i ((getR D x.Id).getD zeroR).Kind, ((getR D x.Id).getD zeroR).Cents, ((getR D x.Id).getD zeroR).Of] : List Int) = [x.Id, x.Source, x.Account, x.Made, x.About, U8.i x.Kind, x.Cents, x.Of])) with hb4 | hb4
          · skip
            refine reg [(1, .dec true), (5, .dec false)] [3, 14, 15, 16, 5, 32] hG hS (env := [(3, .mp 0), (14, .sl (l.map Report.av)), (15, .int .i64 ((l.length : Nat) : Int)), (16, .int .i64 ((pre.length : Nat) : Int)), (5, .box 1 0), (32, .bool false)]) (own := [.map (D.map idk) (D.map Report.av), .box none 73 [.int .i64 x.Id, .int .i64 x.Source, .int .i64 x.Account, .int .i64 x.Made, .int .i64 x.About, .int .u8 (U8.i x.Kind), .int .i64 x.Cents, .int .i64 x.Of], .box none 73 [.int .i64 (((getR D x.Id).getD zeroR).Id), .int .i64 (((getR D x.Id).getD zeroR).Source), .int .i64 (((getR D x.Id).getD zeroR).Account), .int .i64 (((getR D x.Id).getD zeroR).Made), .int .i64 (((getR D x.Id).getD zeroR).About), .int .u8 (U8.i ((getR D x.Id).getD zeroR).Kind), .int .i64 (((getR D x.Id).getD zeroR).Cents), .int .i64 (((getR D x.Id).getD zeroR).Of)]]) (obs := [(getR D x.Id).isSome = true, (!decide (([((getR D x.Id).getD zeroR).Id, ((getR D x.Id).getD zeroR).Source, ((getR D x.Id).getD zeroR).Account, ((getR D x.Id).getD zeroR).Made, ((getR D x.Id).getD zeroR).About, U8.i ((getR D x.Id).getD zeroR).Kind, ((getR D x.Id).getD zeroR).Cents, ((getR D x.Id).getD zeroR).Of] : List Int) = [x.Id, x.Source, x.Account, x.Made, x.About, U8.i x.Kind, x.Cents, x.Of])) = false]) (by kernel_rfl) (⟨hb3, by rw [hb4]; rfl⟩) fun ac wd hS => ?_
            refine cond_no hS (c := false) (by kernel_rfl) rfl ?_
            refine runs_skip ?_
            refine reg [(4, .put ((putD D x).map idk) ((putD D x).map Report.av))] [3, 14, 15, 16] hG hS (env := [(3, .mp 0), (14, .sl (l.map Report.av)), (15, .int .i64 ((l.length : Nat) : Int)), (16, .int .i64 ((pre.length : Nat) : Int))]) (own := [.map ((putD D x).map idk) ((putD D x).map Report.av), .box none 73 [.int .i64 x.Id, .int .i64 x.Source, .int .i64 x.Account, .int .i64 x.Made, .int .i64 x.About, .int .u8 (U8.i x.Kind), .int .i64 x.Cents, .int .i64 x.Of], .box none 73 [.int .i64 (((getR D x.Id).getD zeroR).Id), .int .i64 (((getR D x.Id).getD zeroR).Source), .int .i64 (((getR D x.Id).getD zeroR).Account), .int .i64 (((getR D x.Id).getD zeroR).Made), .int .i64 (((getR D x.Id).getD zeroR).About), .int .u8 (U8.i ((getR D x.Id).getD zeroR).Kind), .int .i64 (((getR D x.Id).getD zeroR).Cents), .int .i64 (((getR D x.Id).getD zeroR).Of)]]) (obs := [PutOK Tryz.prog 3 (D.map idk) (D.map Report.av) (.int .i64 x.Id) (Report.av x) ((putD D x).map idk) ((putD D x).map Report.av)]) (by kernel_rfl) ((put_any (kf := Report.Id) (vf := Report.av) hi.nd x)) fun ac wd hS => ?_
            refine runs_inBlock ?_
            refine reg [(0, .is (((pre ++ [x]).length : Nat) : Int))] [3, 14, 15, 16] hG hS (env := [(3, .mp 0), (14, .sl (l.map Report.av)), (15, .int .i64 ((l.length : Nat) : Int)), (16, .int .i64 (((pre ++ [x]).length : Nat) : Int))]) (own := [.map ((putD D x).map idk) ((putD D x).map Report.av), .box none 73 [.int .i64 x.Id, .int .i64 x.Source, .int .i64 x.Account, .int .i64 x.Made, .int .i64 x.About, .int .u8 (U8.i x.Kind), .int .i64 x.Cents, .int .i64 x.Of], .box none 73 [.int .i64 (((getR D x.Id).getD zeroR).Id), .int .i64 (((getR D x.Id).getD zeroR).Source), .int .i64 (((getR D x.Id).getD zeroR).Account), .int .i64 (((getR D x.Id).getD zeroR).Made), .int .i64 (((getR D x.Id).getD zeroR).About), .int .u8 (U8.i ((getR D x.Id).getD zeroR).Kind), .int .i64 (((getR D x.Id).getD zeroR).Cents), .int .i64 (((getR D x.Id).getD zeroR).Of)]]) (obs := [IntKind.i64.wrap (((pre.length : Nat) : Int) + 1) = (((pre ++ [x]).length : Nat) : Int)]) (by kernel_rfl) ((next_len hl hn)) fun ac wd hS => ?_
            refine runs_inLoop ?_
            exact ihx _ _ (pre ++ [x]) (putD D x) (next_eq hl) (hi.step x (fun q hq => by rw [hq] at hb4; exact same_iff.1 hb4)) (hS.sel [0] [3, 14, 15, 16] (by kernel_rfl))
          · skip
            refine reg [(1, .dec true), (5, .dec true)] [3, 14, 15, 16, 5, 32] hG hS (env := [(3, .mp 0), (14, .sl (l.map Report.av)), (15, .int .i64 ((l.length : Nat) : Int)), (16, .int .i64 ((pre.length : Nat) : Int)), (5, .box 1 0), (32, .bool true)]) (own := [.map (D.map idk) (D.map Report.av), .box none 73 [.int .i64 x.Id, .int .i64 x.Source, .int .i64 x.Account, .int .i64 x.Made, .int .i64 x.About, .int .u8 (U8.i x.Kind), .int .i64 x.Cents, .int .i64 x.Of], .box none 73 [.int .i64 (((getR D x.Id).getD zeroR).Id), .int .i64 (((getR D x.Id).getD zeroR).Source), .int .i64 (((getR D x.Id).getD zeroR).Account), .int .i64 (((getR D x.Id).getD zeroR).Made), .int .i64 (((getR D x.Id).getD zeroR).About), .int .u8 (U8.i ((getR D x.Id).getD zeroR).Kind), .int .i64 (((getR D x.Id).getD zeroR).Cents), .int .i64 (((getR D x.Id).getD zeroR).Of)]]) (obs := [(getR D x.Id).isSome = true, (!decide (([((getR D x.Id).getD zeroR).Id, ((getR D x.Id).getD zeroR).Source, ((getR D x.Id).getD zeroR).Account, ((getR D x.Id).getD zeroR).Made, ((getR D x.Id).getD zeroR).About, U8.i ((getR D x.Id).getD zeroR).Kind, ((getR D x.Id).getD zeroR).Cents, ((getR D x.Id).getD zeroR).Of] : List Int) = [x.Id, x.Source, x.Account, x.Made, x.About, U8.i x.Kind, x.Cents, x.Of])) = true]) (by kernel_rfl) (⟨hb3, by rw [hb4]; rfl⟩) fun ac wd hS => ?_
            refine cond_yes hS (c := true) (by kernel_rfl) rfl ?_
            refine runs_seq ?_
            refine reg [] [2] hG hS (env := [(2, .int .i64 31)]) (own := [.map (D.map idk) (D.map Report.av), .box none 73 [.int .i64 x.Id, .int .i64 x.Source, .int .i64 x.Account, .int .i64 x.Made, .int .i64 x.About, .int .u8 (U8.i x.Kind), .int .i64 x.Cents, .int .i64 x.Of], .box none 73 [.int .i64 (((getR D x.Id).getD zeroR).Id), .int .i64 (((getR D x.Id).getD zeroR).Source), .int .i64 (((getR D x.Id).getD zeroR).Account), .int .i64 (((getR D x.Id).getD zeroR).Made), .int .i64 (((getR D x.Id).getD zeroR).About), .int .u8 (U8.i ((getR D x.Id).getD zeroR).Kind), .int .i64 (((getR D x.Id).getD zeroR).Cents), .int .i64 (((getR D x.Id).getD zeroR).Of)]]) (obs := []) (by kernel_rfl) (trivial) fun ac wd hS => ?_
            rw [show (.int .i64 (checkR l) : AV) = .int .i64 31 from by (try simp only [decide_eq_true_eq, decide_eq_false_iff_not] at hb1); have h8 : (l.all validB) = true := (by simp only [List.all_eq_true]; intro y hy; simp only [List.any_eq_false] at hb2; have := hb2 y hy; simpa using this); have h6 : pairsB [] l = false := (by rw [Bool.eq_false_iff, ne_eq, pairs_iff]; intro h; cases hq : getR D x.Id with | none => (rw [hq] at hb3; cases hb3) | some q => (have h5 := getR_mem hq; have h4 := h q (by rw [hl]; simp [hi.sub q h5.1]) x (mem_mid hl) h5.2; have h3 := hb4; rw [hq] at h3; have h2 : sameI q x = false := h3; rw [same_iff.2 (show q = x from h4)] at h2; cases h2)); simp only [checkR, hb1, if_false, h8, if_true, h6, Bool.false_eq_true]]
            exact retz Tryz.func76 rfl hB hBd hS (by kernel_rfl) rfl
        · skip
          refine reg [(1, .dec false)] [3, 14, 15, 16, 5, 32] hG hS (env := [(3, .mp 0), (14, .sl (l.map Report.av)), (15, .int .i64 ((l.length : Nat) : Int)), (16, .int .i64 ((pre.length : Nat) : Int)), (5, .box 1 0), (32, .bool false)]) (own := [.map (D.map idk) (D.map Report.av), .box none 73 [.int .i64 x.Id, .int .i64 x.Source, .int .i64 x.Account, .int .i64 x.Made, .int .i64 x.About, .int .u8 (U8.i x.Kind), .int .i64 x.Cents, .int .i64 x.Of], .box none 73 [.int .i64 (((getR D x.Id).getD zeroR).Id), .int .i64 (((getR D x.Id).getD zeroR).Source), .int .i64 (((getR D x.Id).getD zeroR).Account), .int .i64 (((getR D x.Id).getD zeroR).Made), .int .i64 (((getR D x.Id).getD zeroR).About), .int .u8 (U8.i ((getR D x.Id).getD zeroR).Kind), .int .i64 (((getR D x.Id).getD zeroR).Cents), .int .i64 (((getR D x.Id).getD zeroR).Of)]]) (obs := [(getR D x.Id).isSome = false]) (by kernel_rfl) (hb3) fun ac wd hS => ?_
          refine cond_no hS (c := false) (by kernel_rfl) rfl ?_
          refine runs_skip ?_
          refine reg [(4, .put ((putD D x).map idk) ((putD D x).map Report.av))] [3, 14, 15, 16] hG hS (env := [(3, .mp 0), (14, .sl (l.map Report.av)), (15, .int .i64 ((l.length : Nat) : Int)), (16, .int .i64 ((pre.length : Nat) : Int))]) (own := [.map ((putD D x).map idk) ((putD D x).map Report.av), .box none 73 [.int .i64 x.Id, .int .i64 x.Source, .int .i64 x.Account, .int .i64 x.Made, .int .i64 x.About, .int .u8 (U8.i x.Kind), .int .i64 x.Cents, .int .i64 x.Of], .box none 73 [.int .i64 (((getR D x.Id).getD zeroR).Id), .int .i64 (((getR D x.Id).getD zeroR).Source), .int .i64 (((getR D x.Id).getD zeroR).Account), .int .i64 (((getR D x.Id).getD zeroR).Made), .int .i64 (((getR D x.Id).getD zeroR).About), .int .u8 (U8.i ((getR D x.Id).getD zeroR).Kind), .int .i64 (((getR D x.Id).getD zeroR).Cents), .int .i64 (((getR D x.Id).getD zeroR).Of)]]) (obs := [PutOK Tryz.prog 3 (D.map idk) (D.map Report.av) (.int .i64 x.Id) (Report.av x) ((putD D x).map idk) ((putD D x).map Report.av)]) (by kernel_rfl) ((put_any (kf := Report.Id) (vf := Report.av) hi.nd x)) fun ac wd hS => ?_
          refine runs_inBlock ?_
          refine reg [(0, .is (((pre ++ [x]).length : Nat) : Int))] [3, 14, 15, 16] hG hS (env := [(3, .mp 0), (14, .sl (l.map Report.av)), (15, .int .i64 ((l.length : Nat) : Int)), (16, .int .i64 (((pre ++ [x]).length : Nat) : Int))]) (own := [.map ((putD D x).map idk) ((putD D x).map Report.av), .box none 73 [.int .i64 x.Id, .int .i64 x.Source, .int .i64 x.Account, .int .i64 x.Made, .int .i64 x.About, .int .u8 (U8.i x.Kind), .int .i64 x.Cents, .int .i64 x.Of], .box none 73 [.int .i64 (((getR D x.Id).getD zeroR).Id), .int .i64 (((getR D x.Id).getD zeroR).Source), .int .i64 (((getR D x.Id).getD zeroR).Account), .int .i64 (((getR D x.Id).getD zeroR).Made), .int .i64 (((getR D x.Id).getD zeroR).About), .int .u8 (U8.i ((getR D x.Id).getD zeroR).Kind), .int .i64 (((getR D x.Id).getD zeroR).Cents), .int .i64 (((getR D x.Id).getD zeroR).Of)]]) (obs := [IntKind.i64.wrap (((pre.length : Nat) : Int) + 1) = (((pre ++ [x]).length : Nat) : Int)]) (by kernel_rfl) ((next_len hl hn)) fun ac wd hS => ?_
          refine runs_inLoop ?_
          exact ihx _ _ (pre ++ [x]) (putD D x) (next_eq hl) (hi.step x (fun q hq => by have h9 := hb3; rw [hq] at h9; cases h9)) (hS.sel [0] [3, 14, 15, 16] (by kernel_rfl))
theorem aims_eq (K : List Report) (r : Report) : aimsB K r = ((getR K r.Of).isSome && (((((getR K r.Of).getD zeroR).Source == r.Source)) && (((getR K r.Of).getD zeroR).Account == r.Account))) := by
  unfold aimsB
  cases getR K r.Of <;> simp
theorem aim_ok (K : List Report) (r : Report) (hK : NodupR K) : CallA Tryz.prog GT 105 [.agg [.fm (K.map idk) (K.map Report.av)], Report.av r] (.tup [Report.av ((getR K r.Of).getD zeroR), .bool (aimsB K r)]) := by
  refine callA_of Tryz.func105 rfl (by simp [Tryz.f105]) rfl fun B ac hB hBd hG hS => ?_
  refine runs_seq ?_
  refine reg [] [2, 3, 4] hG hS (env := [(2, .box 0 0), (3, .box 1 0), (4, .box 2 0)]) (own := [.box none 145 [.fm (K.map idk) (K.map Report.av)], .box none 73 [.int .i64 r.Id, .int .i64 r.Source, .int .i64 r.Account, .int .i64 r.Made, .int .i64 r.About, .int .u8 (U8.i r.Kind), .int .i64 r.Cents, .int .i64 r.Of], .box none 73 [.int .i64 0, .int .i64 0, .int .i64 0, .int .i64 0, .int .i64 0, .int .u8 0, .int .i64 0, .int .i64 0]]) (obs := []) (by kernel_rfl) (trivial) fun ac wd hS => ?_
  refine runs_seq ?_
  refine reg [(4, .av (.tup [Report.av ((getR K r.Of).getD zeroR), .bool ((getR K r.Of).isSome)]))] [3, 4, 6, 7] hG hS (env := [(3, .box 1 0), (4, .box 2 0), (6, .box 3 0), (7, .bool ((getR K r.Of).isSome))]) (own := [.box none 145 [.fm (K.map idk) (K.map Report.av)], .box none 73 [.int .i64 r.Id, .int .i64 r.Source, .int .i64 r.Account, .int .i64 r.Made, .int .i64 r.About, .int .u8 (U8.i r.Kind), .int .i64 r.Cents, .int .i64 r.Of], .box none 73 [.int .i64 0, .int .i64 0, .int .i64 0, .int .i64 0, .int .i64 0, .int .u8 0, .int .i64 0, .int .i64 0], .box none 73 [.int .i64 (((getR K r.Of).getD zeroR).Id), .int .i64 (((getR K r.Of).getD zeroR).Source), .int .i64 (((getR K r.Of).getD zeroR).Account), .int .i64 (((getR K r.Of).getD zeroR).Made), .int .i64 (((getR K r.Of).getD zeroR).About), .int .u8 (U8.i ((getR K r.Of).getD zeroR).Kind), .int .i64 (((getR K r.Of).getD zeroR).Cents), .int .i64 (((getR K r.Of).getD zeroR).Of)]]) (obs := [LookOK Tryz.prog 3 (K.map idk) (K.map Report.av) (.int .i64 r.Of) (Report.av ((getR K r.Of).getD zeroR)) (.agg [.int .i64 0, .int .i64 0, .int .i64 0, .int .i64 0, .int .i64 0, .int .u8 0, .int .i64 0, .int .i64 0]) (getR K r.Of).isSome]) (by kernel_rfl) ((look_R hK _)) fun ac wd hS => ?_
  refine runs_seq ?_
  rcases Bool.eq_false_or_eq_true ((getR K r.Of).isSome) with hb1 | hb1
  · skip
    rcases Bool.eq_false_or_eq_true (((((getR K r.Of).getD zeroR).Source) == r.Source)) with hb2 | hb2
    · skip
      refine drw [(2, .dec true), (9, .dec true)] [4, 5] hG hS (env := [(4, .box 2 0), (5, .bool ((((getR K r.Of).getD zeroR).Account) == r.Account))]) (own := [.box none 145 [.fm (K.map idk) (K.map Report.av)], .box none 73 [.int .i64 r.Id, .int .i64 r.Source, .int .i64 r.Account, .int .i64 r.Made, .int .i64 r.About, .int .u8 (U8.i r.Kind), .int .i64 r.Cents, .int .i64 r.Of], .box none 73 [.int .i64 (((getR K r.Of).getD zeroR).Id), .int .i64 (((getR K r.Of).getD zeroR).Source), .int .i64 (((getR K r.Of).getD zeroR).Account), .int .i64 (((getR K r.Of).getD zeroR).Made), .int .i64 (((getR K r.Of).getD zeroR).About), .int .u8 (U8.i ((getR K r.Of).getD zeroR).Kind), .int .i64 (((getR K r.Of).getD zeroR).Cents), .int .i64 (((getR K r.Of).getD zeroR).Of)], .box none 73 [.int .i64 (((getR K r.Of).getD zeroR).Id), .int .i64 (((getR K r.Of).getD zeroR).Source), .int .i64 (((getR K r.Of).getD zeroR).Account), .int .i64 (((getR K r.Of).getD zeroR).Made), .int .i64 (((getR K r.Of).getD zeroR).About), .int .u8 (U8.i ((getR K r.Of).getD zeroR).Kind), .int .i64 (((getR K r.Of).getD zeroR).Cents), .int .i64 (((getR K r.Of).getD zeroR).Of)]]) (obs := [(getR K r.Of).isSome = true, ((((getR K r.Of).getD zeroR).Source) == r.Source) = true]) (by kernel_rfl) (by kernel_rfl) (⟨hb1, hb2⟩) fun ac wd hS => ?_
      rw [show (.tup [Report.av ((getR K r.Of).getD zeroR), .bool (aimsB K r)] : AV) = .tup [.agg [.int .i64 (((getR K r.Of).getD zeroR).Id), .int .i64 (((getR K r.Of).getD zeroR).Source), .int .i64 (((getR K r.Of).getD zeroR).Account), .int .i64 (((getR K r.Of).getD zeroR).Made), .int .i64 (((getR K r.Of).getD zeroR).About), .int .u8 (U8.i ((getR K r.Of).getD zeroR).Kind), .int .i64 (((getR K r.Of).getD zeroR).Cents), .int .i64 (((getR K r.Of).getD zeroR).Of)], .bool ((((getR K r.Of).getD zeroR).Account) == r.Account)] from by rw [aims_eq]; simp only [hb1, hb2, Bool.and_true, Bool.true_and, Bool.and_false, Bool.false_and, Bool.or_true, Bool.true_or, Bool.or_false, Bool.false_or, Bool.not_true, Bool.not_false] <;> rfl]
      exact retz Tryz.func105 rfl hB hBd hS (by kernel_rfl) rfl
    · skip
      refine drw [(2, .dec true), (9, .dec false)] [4, 5] hG hS (env := [(4, .box 2 0), (5, .bool false)]) (own := [.box none 145 [.fm (K.map idk) (K.map Report.av)], .box none 73 [.int .i64 r.Id, .int .i64 r.Source, .int .i64 r.Account, .int .i64 r.Made, .int .i64 r.About, .int .u8 (U8.i r.Kind), .int .i64 r.Cents, .int .i64 r.Of], .box none 73 [.int .i64 (((getR K r.Of).getD zeroR).Id), .int .i64 (((getR K r.Of).getD zeroR).Source), .int .i64 (((getR K r.Of).getD zeroR).Account), .int .i64 (((getR K r.Of).getD zeroR).Made), .int .i64 (((getR K r.Of).getD zeroR).About), .int .u8 (U8.i ((getR K r.Of).getD zeroR).Kind), .int .i64 (((getR K r.Of).getD zeroR).Cents), .int .i64 (((getR K r.Of).getD zeroR).Of)], .box none 73 [.int .i64 (((getR K r.Of).getD zeroR).Id), .int .i64 (((getR K r.Of).getD zeroR).Source), .int .i64 (((getR K r.Of).getD zeroR).Account), .int .i64 (((getR K r.Of).getD zeroR).Made), .int .i64 (((getR K r.Of).getD zeroR).About), .int .u8 (U8.i ((getR K r.Of).getD zeroR).Kind), .int .i64 (((getR K r.Of).getD zeroR).Cents), .int .i64 (((getR K r.Of).getD zeroR).Of)]]) (obs := [(getR K r.Of).isSome = true, ((((getR K r.Of).getD zeroR).Source) == r.Source) = false]) (by kernel_rfl) (by kernel_rfl) (⟨hb1, hb2⟩) fun ac wd hS => ?_
      rw [show (.tup [Report.av ((getR K r.Of).getD zeroR), .bool (aimsB K r)] : AV) = .tup [.agg [.int .i64 (((getR K r.Of).getD zeroR).Id), .int .i64 (((getR K r.Of).getD zeroR).Source), .int .i64 (((getR K r.Of).getD zeroR).Account), .int .i64 (((getR K r.Of).getD zeroR).Made), .int .i64 (((getR K r.Of).getD zeroR).About), .int .u8 (U8.i ((getR K r.Of).getD zeroR).Kind), .int .i64 (((getR K r.Of).getD zeroR).Cents), .int .i64 (((getR K r.Of).getD zeroR).Of)], .bool false] from by rw [aims_eq]; simp only [hb1, hb2, Bool.and_true, Bool.true_and, Bool.and_false, Bool.false_and, Bool.or_true, Bool.true_or, Bool.or_false, Bool.false_or, Bool.not_true, Bool.not_false] <;> rfl]
      exact retz Tryz.func105 rfl hB hBd hS (by kernel_rfl) rfl
  · skip
    refine drw [(2, .dec false)] [4, 5] hG hS (env := [(4, .box 2 0), (5, .bool false)]) (own := [.box none 145 [.fm (K.map idk) (K.map Report.av)], .box none 73 [.int .i64 r.Id, .int .i64 r.Source, .int .i64 r.Account, .int .i64 r.Made, .int .i64 r.About, .int .u8 (U8.i r.Kind), .int .i64 r.Cents, .int .i64 r.Of], .box none 73 [.int .i64 (((getR K r.Of).getD zeroR).Id), .int .i64 (((getR K r.Of).getD zeroR).Source), .int .i64 (((getR K r.Of).getD zeroR).Account), .int .i64 (((getR K r.Of).getD zeroR).Made), .int .i64 (((getR K r.Of).getD zeroR).About), .int .u8 (U8.i ((getR K r.Of).getD zeroR).Kind), .int .i64 (((getR K r.Of).getD zeroR).Cents), .int .i64 (((getR K r.Of).getD zeroR).Of)], .box none 73 [.int .i64 (((getR K r.Of).getD zeroR).Id), .int .i64 (((getR K r.Of).getD zeroR).Source), .int .i64 (((getR K r.Of).getD zeroR).Account), .int .i64 (((getR K r.Of).getD zeroR).Made), .int .i64 (((getR K r.Of).getD zeroR).About), .int .u8 (U8.i ((getR K r.Of).getD zeroR).Kind), .int .i64 (((getR K r.Of).getD zeroR).Cents), .int .i64 (((getR K r.Of).getD zeroR).Of)]]) (obs := [(getR K r.Of).isSome = false]) (by kernel_rfl) (by kernel_rfl) (hb1) fun ac wd hS => ?_
    rw [show (.tup [Report.av ((getR K r.Of).getD zeroR), .bool (aimsB K r)] : AV) = .tup [.agg [.int .i64 (((getR K r.Of).getD zeroR).Id), .int .i64 (((getR K r.Of).getD zeroR).Source), .int .i64 (((getR K r.Of).getD zeroR).Account), .int .i64 (((getR K r.Of).getD zeroR).Made), .int .i64 (((getR K r.Of).getD zeroR).About), .int .u8 (U8.i ((getR K r.Of).getD zeroR).Kind), .int .i64 (((getR K r.Of).getD zeroR).Cents), .int .i64 (((getR K r.Of).getD zeroR).Of)], .bool false] from by rw [aims_eq]; simp only [hb1, Bool.and_true, Bool.true_and, Bool.and_false, Bool.false_and, Bool.or_true, Bool.true_or, Bool.or_false, Bool.false_or, Bool.not_true, Bool.not_false] <;> rfl]
    exact retz Tryz.func105 rfl hB hBd hS (by kernel_rfl) rfl
theorem away_ok (ks vs fk fv : List AV) (M : IM) (id : Int) (hM : NodupM M) : CallA Tryz.prog GT 107 [.agg [.fm ks vs, .fm (M.map k1) (M.map v1), .fm fk fv], .int .i64 id] (.bool (getM M id).isSome) := by
  refine callA_of Tryz.func107 rfl (by simp [Tryz.f107]) rfl fun B ac hB hBd hG hS => ?_
  refine runs_seq ?_
  refine reg [] [1, 2] hG hS (env := [(1, .int .i64 id), (2, .box 0 0)]) (own := [.box none 147 [.fm ks vs, .fm (M.map k1) (M.map v1), .fm fk fv]]) (obs := []) (by kernel_rfl) (trivial) fun ac wd hS => ?_
  refine runs_seq ?_
  refine reg [(3, .av (.tup [.int .i64 ((getM M id).getD 0), .bool ((getM M id).isSome)]))] [6] hG hS (env := [(6, .bool ((getM M id).isSome))]) (own := [.box none 147 [.fm ks vs, .fm (M.map k1) (M.map v1), .fm fk fv]]) (obs := [LookOK Tryz.prog 3 (M.map k1) (M.map v1) (.int .i64 id) (.int .i64 ((getM M id).getD 0)) (.int .i64 0) (getM M id).isSome]) (by kernel_rfl) ((look_M hM _)) fun ac wd hS => ?_
  refine runs_seq ?_
  refine reg [] [4] hG hS (env := [(4, .bool ((getM M id).isSome))]) (own := [.box none 147 [.fm ks vs, .fm (M.map k1) (M.map v1), .fm fk fv]]) (obs := []) (by kernel_rfl) (trivial) fun ac wd hS => ?_
  rw [show (.bool (getM M id).isSome : AV) = .bool ((getM M id).isSome) from by (first | (simp []; done) | (simp []; omega) | (congr 1; simp only []; grind))]
  exact retz Tryz.func107 rfl hB hBd hS (by kernel_rfl) rfl
end Go.Fw

set_option maxRecDepth 20000
namespace Go.Fw
open Go.Proofs

theorem setK_same {K : List Report} (hn : NodupR K) {x : Report} (hx : x ∈ K) : setK Report.Id K x = K := by
  conv => rhs; rw [← List.map_id K]
  refine List.map_congr_left fun b hb => ?_
  split
  · rename_i h; exact (hn.eq hb hx h).symm
  · rfl
theorem put_known {known : Int} {K : List Report} {x : Report} (hn : NodupR K) (hs : ∀ q, getR K x.Id = some q → q = x) (hm : decide (x.Made ≤ known) = true) :
    PutOK Tryz.prog 3 (K.map idk) (K.map Report.av) (ia x.Id) (Report.av x) ((knownStep known K x).map idk) ((knownStep known K x).map Report.av) := by
  have h := put_any (kf := Report.Id) (vf := Report.av) hn x
  have e : putK Report.Id K x = knownStep known K x := by
    unfold putK knownStep
    rw [hm, Bool.true_and, atI_neg]
    cases hg : getR K x.Id with
    | none => rw [show findK Report.Id K x.Id = none from hg]; simp
    | some q =>
      rw [show findK Report.Id K x.Id = some q from hg]
      simp only [Option.isNone_some, Bool.false_eq_true, if_false]
      have := hs q hg; subst this
      exact setK_same hn (getR_mem hg).1
  rw [e] at h; exact h
theorem known_step {known : Int} {K pre : List Report} {x : Report} (hn : NodupR K) (hs : ∀ y ∈ K, y ∈ pre) : NodupR (knownStep known K x) ∧ ∀ y ∈ knownStep known K x, y ∈ pre ++ [x] := by
  refine ⟨known_nodup known [x] K hn, fun y hy => ?_⟩
  unfold knownStep at hy
  split at hy
  · rcases List.mem_append.1 hy with h | h
    · simp [hs y h]
    · simp at h; simp [h]
  · simp [hs y hy]
theorem perm_zipM {M N : IM} (h : M.Perm N) : ((M.map k1).zip (M.map v1)).Perm ((N.map k1).zip (N.map v1)) := by
  have e : ∀ M : IM, (M.map k1).zip (M.map v1) = M.map fun p => (k1 p, v1 p) := fun M => by
    induction M with
    | nil => rfl
    | cons x M ih => simp [ih]
  rw [e, e]; exact h.map _
theorem ne_done {K done left lp lq : List Report} {r : Report} (hK : NodupR K) (hp : (done ++ left).Perm K) (hm : left = lp ++ r :: lq) : ∀ x ∈ done, x.Id ≠ r.Id := by
  have h1 : ((done ++ left).map Report.Id).Nodup := (hp.map Report.Id).nodup_iff.2 hK
  rw [List.map_append, List.nodup_append] at h1
  intro x hx he
  exact h1.2.2 x.Id (List.mem_map_of_mem hx) r.Id (by rw [hm]; simp) he
theorem done_sub {K done left : List Report} (hp : (done ++ left).Perm K) : ∀ x ∈ done, x ∈ K := fun x hx => hp.mem_iff.1 (by simp [hx])
section
variable {K S : List Report} {G F : IM} {r : Report}
theorem ww_of (h1 : (U8.i r.Kind == 9) = true) (h2 : aimsB K r = true) (h3 : (U8.i (ofR K r).Kind != 9) = true) : WW K r (ofR K r).Id := ⟨by simpa using h1, h2, by simpa using h3, rfl⟩
theorem wd_skip1 (h : WdInv K S G) (h1 : (U8.i r.Kind == 9) = false) : WdInv K (S ++ [r]) G := h.skip r fun n hw => by rw [hw.1] at h1; cases h1
theorem wd_skip2 (h : WdInv K S G) (h2 : aimsB K r = false) : WdInv K (S ++ [r]) G := h.skip r fun n hw => by rw [hw.2.1] at h2; cases h2
theorem wd_skip3 (h : WdInv K S G) (h3 : (U8.i (ofR K r).Kind != 9) = false) : WdInv K (S ++ [r]) G := h.skip r fun n hw => hw.2.2.1 (by simpa using h3)
theorem wd_put1 (h : WdInv K S G) (h1 : (U8.i r.Kind == 9) = true) (h2 : aimsB K r = true) (h3 : (U8.i (ofR K r).Kind != 9) = true) (h4 : (getM G (ofR K r).Id).isSome = false) : WdInv K (S ++ [r]) (putM G (ofR K r).Id r.Id) :=
  h.put (ww_of h1 h2 h3) fun v hv => by rw [hv] at h4; cases h4
theorem wd_put2 (h : WdInv K S G) (h1 : (U8.i r.Kind == 9) = true) (h2 : aimsB K r = true) (h3 : (U8.i (ofR K r).Kind != 9) = true) (h5 : decide (r.Id < (getM G (ofR K r).Id).getD 0) = true) : WdInv K (S ++ [r]) (putM G (ofR K r).Id r.Id) :=
  h.put (ww_of h1 h2 h3) fun v hv => by rw [hv] at h5; simpa using h5
theorem wd_keep (h : WdInv K S G) (h1 : (U8.i r.Kind == 9) = true) (h2 : aimsB K r = true) (h3 : (U8.i (ofR K r).Kind != 9) = true) (h4 : (getM G (ofR K r).Id).isSome = true) (h5 : decide (r.Id < (getM G (ofR K r).Id).getD 0) = false) (hne : ∀ x ∈ S, x.Id ≠ r.Id) : WdInv K (S ++ [r]) G := by
  obtain ⟨v, hv⟩ := Option.isSome_iff_exists.1 h4
  rw [hv] at h5
  exact h.keep (ww_of h1 h2 h3) hv (by simpa using h5) hne
theorem or_lt {a b c d : Int} : orI [cmpI a b, cmpI c d] < 0 ↔ a < b ∨ (a = b ∧ c < d) := by
  simp only [orI, cmpI]
  (repeat' split) <;> omega
variable {H : IM}
theorem cc_of (h1 : (U8.i r.Kind != 8) = false) (h2 : aimsB K r = true) (h3 : factB (ofR K r) = true) (h4 : inB 0 (mostI (U8.i (ofR K r).Kind)) [r.Cents] = true) (h5 : (getM H r.Id).isSome = false) (h6 : (getM H (ofR K r).Id).isSome = false) : CC K H r (ofR K r).Id :=
  ⟨by simpa using h1, h2, h3, h4, h5, h6, rfl⟩
theorem c_skip1 (h : CInv K H S F) (h1 : (U8.i r.Kind != 8) = true) : CInv K H (S ++ [r]) F := h.skip r fun n hw => by rw [hw.1] at h1; cases h1
theorem c_skip2 (h : CInv K H S F) (h1 : aimsB K r = false) : CInv K H (S ++ [r]) F := h.skip r fun n hw => by rw [hw.2.1] at h1; cases h1
theorem c_skip3 (h : CInv K H S F) (h1 : factB (ofR K r) = false) : CInv K H (S ++ [r]) F := h.skip r fun n hw => by rw [hw.2.2.1] at h1; cases h1
theorem c_skip4 (h : CInv K H S F) (h1 : inB 0 (mostI (U8.i (ofR K r).Kind)) [r.Cents] = false) : CInv K H (S ++ [r]) F := h.skip r fun n hw => by rw [hw.2.2.2.1] at h1; cases h1
theorem c_skip5 (h : CInv K H S F) (h1 : (getM H r.Id).isSome = true) : CInv K H (S ++ [r]) F := h.skip r fun n hw => by rw [hw.2.2.2.2.1] at h1; cases h1
theorem c_skip6 (h : CInv K H S F) (h1 : (getM H (ofR K r).Id).isSome = true) : CInv K H (S ++ [r]) F := h.skip r fun n hw => by rw [hw.2.2.2.2.2.1] at h1; cases h1
theorem c_put1 (h : CInv K H S F) (hc : CC K H r (ofR K r).Id) (h7 : (getM F (ofR K r).Id).isSome = false) (hne : ∀ x ∈ S, x.Id ≠ r.Id) : CInv K H (S ++ [r]) (putM F (ofR K r).Id r.Id) :=
  h.put hc (fun b _ hb => by rw [hb] at h7; cases h7) hne
theorem c_put2 (h : CInv K H S F) (hc : CC K H r (ofR K r).Id) (h8 : decide (orI [cmpI ((getR K ((getM F (ofR K r).Id).getD 0)).getD zeroR).Made r.Made, cmpI ((getM F (ofR K r).Id).getD 0) r.Id] < 0) = true) (hK : NodupR K) (hS : ∀ x ∈ S, x ∈ K) (hne : ∀ x ∈ S, x.Id ≠ r.Id) : CInv K H (S ++ [r]) (putM F (ofR K r).Id r.Id) :=
  h.put hc (fun b hbS hb => by
    rw [hb] at h8
    simp only [Option.getD_some, decide_eq_true_eq] at h8
    rw [hK.get (hS b hbS), or_lt] at h8
    simp only [Option.getD_some] at h8
    unfold lexle; omega) hne
theorem c_keep (h : CInv K H S F) (hc : CC K H r (ofR K r).Id) (h7 : (getM F (ofR K r).Id).isSome = true) (h8 : decide (orI [cmpI ((getR K ((getM F (ofR K r).Id).getD 0)).getD zeroR).Made r.Made, cmpI ((getM F (ofR K r).Id).getD 0) r.Id] < 0) = false) (hK : NodupR K) (hS : ∀ x ∈ S, x ∈ K) (hne : ∀ x ∈ S, x.Id ≠ r.Id) : CInv K H (S ++ [r]) F := by
  obtain ⟨v, hv⟩ := Option.isSome_iff_exists.1 h7
  obtain ⟨b, hbS, _, rfl, _⟩ := (h.ok _ v).1 hv
  refine h.keep hc hbS hv ?_ hne (fun x hx he => hK.eq (hS x hx) (hS b hbS) he)
  rw [hv] at h8
  simp only [Option.getD_some, decide_eq_false_iff_not] at h8
  rw [hK.get (hS b hbS), or_lt] at h8
  simp only [Option.getD_some] at h8
  unfold lexle; omega
end
def deskAV (K : List Report) : AV := .agg [.fm (K.map idk) (K.map Report.av), .fm ((goneL K).map k1) ((goneL K).map v1), .fm ((fixedL K).map k1) ((fixedL K).map v1)]
theorem open_ok (l : List Report) (known : Int) (hf : Fine l) : CallA Tryz.prog GT 79 [.sl (l.map Report.av), .int .i64 known] (deskAV (knownL l known)) := by
  have hn : l.length ≤ 65536 := by have := hf.len; omega
  refine callA_of Tryz.func79 rfl (by simp [Tryz.f79]) rfl fun B ac hB hBd hG hS => ?_
  refine runs_seq ?_
  refine reg [] [0, 1, 4] hG hS (env := [(0, .sl (l.map Report.av)), (1, .int .i64 known), (4, .box 0 0)]) (own := [.box none 147 [.nmp, .nmp, .nmp]]) (obs := []) (by kernel_rfl) (trivial) fun ac wd hS => ?_
  refine runs_seq ?_
  refine reg [] [0, 1, 4, 5] hG hS (env := [(0, .sl (l.map Report.av)), (1, .int .i64 known), (4, .box 0 0), (5, .box 4 0)]) (own := [.box none 147 [.nmp, .nmp, .nmp], .map [] [], .map [] [], .map [] [], .box none 147 [.mp 1, .mp 2, .mp 3]]) (obs := []) (by kernel_rfl) (trivial) fun ac wd hS => ?_
  refine runs_seq ?_
  refine runs_seq ?_
  refine reg [(1, .is ((l.length : Nat) : Int))] [1, 4, 5, 26, 27, 28] hG hS (env := [(1, .int .i64 known), (4, .box 0 0), (5, .box 4 0), (26, .sl (l.map Report.av)), (27, .int .i64 ((l.length : Nat) : Int)), (28, .int .i64 0)]) (own := [.box none 147 [.nmp, .nmp, .nmp], .map [] [], .map [] [], .map [] [], .box none 147 [.mp 1, .mp 2, .mp 3]]) (obs := [((l.map Report.av).length : Int) = ((l.length : Nat) : Int)]) (by kernel_rfl) (len_map) fun ac wd hS => ?_
  refine runs_block ?_
  refine runs_loop ?_
  have hinv : ∃ (pre rest : List Report) (K : List Report), l = pre ++ rest ∧ (l.foldl (knownStep known) [] = rest.foldl (knownStep known) K) ∧ (NodupR K ∧ ∀ y ∈ K, y ∈ pre) ∧ Sat B ⟨Tryz.f79.ntmps, [(1, .int .i64 known), (4, .box 0 0), (5, .box 4 0), (26, .sl (l.map Report.av)), (27, .int .i64 ((l.length : Nat) : Int)), (28, .int .i64 ((pre.length : Nat) : Int))], [.box none 147 [.nmp, .nmp, .nmp], .map (K.map idk) (K.map Report.av), .map [] [], .map [] [], .box none 147 [.mp 1, .mp 2, .mp 3]]⟩ ac wd := ⟨[], l, [], rfl, rfl, ⟨by simp [NodupR], by simp⟩, hS.sel [0, 1, 2, 3, 4] [1, 4, 5, 26, 27, 28] (by kernel_rfl)⟩
  clear hS
  obtain ⟨pre, rest, K, hl, hK, hnd, hS⟩ := hinv
  induction rest generalizing pre K ac wd with
  | nil =>
    have hKe : knownL l known = K := hK
    have hgood : Good K := hKe ▸ hf.good known
    refine runs_seq ?_
    refine reg [(0, .dec false)] [1, 4, 5, 26, 27, 28, 29] hG hS (env := [(1, .int .i64 known), (4, .box 0 0), (5, .box 4 0), (26, .sl (l.map Report.av)), (27, .int .i64 ((l.length : Nat) : Int)), (28, .int .i64 ((pre.length : Nat) : Int)), (29, .bool false)]) (own := [.box none 147 [.nmp, .nmp, .nmp], .map (K.map idk) (K.map Report.av), .map [] [], .map [] [], .box none 147 [.mp 1, .mp 2, .mp 3]]) (obs := [decide (((pre.length : Nat) : Int) < ((l.length : Nat) : Int)) = false]) (by kernel_rfl) ((lt_no hl)) fun ac wd hS => ?_
    refine runs_seq ?_
    refine cond_no hS (c := false) (by kernel_rfl) rfl ?_
    refine runs_exit (by rfl) ?_
    refine runs_seq ?_
    refine runs_seq ?_
    replace hS : Sat B ⟨Tryz.f79.ntmps, [(1, .int .i64 known), (4, .box 0 0), (5, .box 4 0), (26, .sl (l.map Report.av)), (27, .int .i64 ((l.length : Nat) : Int)), (28, .int .i64 ((pre.length : Nat) : Int)), (29, .bool false)], [.box none 147 [.nmp, .nmp, .nmp], .gone, .map [] [], .map [] [], .box none 147 [.fm (K.map idk) (K.map Report.av), .mp 2, .mp 3]]⟩ ac wd := hS.frz hB 1 (by kernel_rfl)
    refine reg [] [4, 5, 46] hG hS (env := [(4, .box 0 0), (5, .box 4 0), (46, .itr 5)]) (own := [.box none 147 [.nmp, .nmp, .nmp], .gone, .map [] [], .map [] [], .box none 147 [.fm (K.map idk) (K.map Report.av), .mp 2, .mp 3], .iter (K.map idk) (K.map Report.av) none]) (obs := []) (by kernel_rfl) (trivial) fun ac wd hS => ?_
    refine runs_block ?_
    refine runs_loop ?_
    have hinv : ∃ (left done : List Report) (cur : Option (AV × AV)) (G : IM), (done ++ left).Perm K ∧ (WdInv K done G) ∧ Sat B ⟨Tryz.f79.ntmps, [(4, .box 0 0), (5, .box 4 0), (46, .itr 5)], [.box none 147 [.nmp, .nmp, .nmp], .gone, .map (G.map k1) (G.map v1), .map [] [], .box none 147 [.fm (K.map idk) (K.map Report.av), .mp 2, .mp 3], .iter (left.map idk) (left.map Report.av) cur]⟩ ac wd := ⟨K, [], none, [], List.Perm.refl _, WdInv.nil K, hS.sel [0, 1, 2, 3, 4, 5] [4, 5, 46] (by kernel_rfl)⟩
    clear hS
    obtain ⟨left, done, cur, G, hperm, hW, hS⟩ := hinv
    generalize hmm : left.length = mm
    induction mm using Nat.strongRecOn generalizing ac wd left done cur G with
    | _ mm ihm =>
      refine runs_seq ?_
      refine region_nextL (left := left) (kf := idk) (vf := Report.av) hS rfl rfl rfl rfl (by rfl) rfl rfl rfl ?_ ?_
      · intro hleft ac wd hS
        have hdone : done.Perm K := by rw [hleft, List.append_nil] at hperm; exact hperm
        refine regT [] [4, 5, 46, 48] hG hS (env := [(4, .box 0 0), (5, .box 4 0), (46, .itr 5), (48, .bool false)]) (own := [.box none 147 [.nmp, .nmp, .nmp], .gone, .map (G.map k1) (G.map v1), .map [] [], .box none 147 [.fm (K.map idk) (K.map Report.av), .mp 2, .mp 3], .iter (left.map idk) (left.map Report.av) cur]) (obs := []) (by kernel_rfl) (by rfl) (trivial) fun ac wd hS => ?_
        refine runs_seq ?_
        refine cond_no hS (c := false) (by kernel_rfl) rfl ?_
        refine runs_exit (by rfl) ?_
        refine runs_seq ?_
        refine runs_seq ?_
        replace hS : Sat B ⟨Tryz.f79.ntmps, [(4, .box 0 0), (5, .box 4 0), (46, .itr 5), (48, .bool false)], [.box none 147 [.nmp, .nmp, .nmp], .gone, .map ((goneL K).map k1) ((goneL K).map v1), .map [] [], .box none 147 [.fm (K.map idk) (K.map Report.av), .mp 2, .mp 3], .iter (left.map idk) (left.map Report.av) cur]⟩ ac wd := hS.perm 2 rfl (perm_zipM ((hW.perm hdone).unique (goneL_inv hgood))) (by simp)
        replace hS : Sat B ⟨Tryz.f79.ntmps, [(4, .box 0 0), (5, .box 4 0), (46, .itr 5), (48, .bool false)], [.box none 147 [.nmp, .nmp, .nmp], .gone, .gone, .map [] [], .box none 147 [.fm (K.map idk) (K.map Report.av), .fm ((goneL K).map k1) ((goneL K).map v1), .mp 3], .iter (left.map idk) (left.map Report.av) cur]⟩ ac wd := hS.frz hB 2 (by kernel_rfl)
        refine reg [] [4, 5, 94] hG hS (env := [(4, .box 0 0), (5, .box 4 0), (94, .itr 6)]) (own := [.box none 147 [.nmp, .nmp, .nmp], .gone, .gone, .map [] [], .box none 147 [.fm (K.map idk) (K.map Report.av), .fm ((goneL K).map k1) ((goneL K).map v1), .mp 3], .iter (left.map idk) (left.map Report.av) cur, .iter (K.map idk) (K.map Report.av) none]) (obs := []) (by kernel_rfl) (trivial) fun ac wd hS => ?_
        refine runs_block ?_
        refine runs_loop ?_
        have hinv : ∃ (left3 done3 : List Report) (cur3 : Option (AV × AV)) (F : IM), (done3 ++ left3).Perm K ∧ (CInv K (goneL K) done3 F) ∧ Sat B ⟨Tryz.f79.ntmps, [(4, .box 0 0), (5, .box 4 0), (94, .itr 6)], [.box none 147 [.nmp, .nmp, .nmp], .gone, .gone, .map (F.map k1) (F.map v1), .box none 147 [.fm (K.map idk) (K.map Report.av), .fm ((goneL K).map k1) ((goneL K).map v1), .mp 3], .iter (left.map idk) (left.map Report.av) cur, .iter (left3.map idk) (left3.map Report.av) cur3]⟩ ac wd := ⟨K, [], none, [], List.Perm.refl _, CInv.nil K _, hS.sel [0, 1, 2, 3, 4, 5, 6] [4, 5, 94] (by kernel_rfl)⟩
        clear hS
        obtain ⟨left3, done3, cur3, F, hperm3, hC, hS⟩ := hinv
        generalize hmm3 : left3.length = mm3
        induction mm3 using Nat.strongRecOn generalizing ac wd left3 done3 cur3 F with
        | _ mm3 ihm3 =>
          refine runs_seq ?_
          refine region_nextL (left := left3) (kf := idk) (vf := Report.av) hS rfl rfl rfl rfl (by rfl) rfl rfl rfl ?_ ?_
          · intro hleft3 ac wd hS
            have hdone3 : done3.Perm K := by rw [hleft3, List.append_nil] at hperm3; exact hperm3
            refine regT [] [4, 5, 94, 96] hG hS (env := [(4, .box 0 0), (5, .box 4 0), (94, .itr 6), (96, .bool false)]) (own := [.box none 147 [.nmp, .nmp, .nmp], .gone, .gone, .map (F.map k1) (F.map v1), .box none 147 [.fm (K.map idk) (K.map Report.av), .fm ((goneL K).map k1) ((goneL K).map v1), .mp 3], .iter (left.map idk) (left.map Report.av) cur, .iter (left3.map idk) (left3.map Report.av) cur3]) (obs := []) (by kernel_rfl) (by rfl) (trivial) fun ac wd hS => ?_
            refine runs_seq ?_
            refine cond_no hS (c := false) (by kernel_rfl) rfl ?_
            refine runs_exit (by rfl) ?_
            refine runs_seq ?_
            replace hS : Sat B ⟨Tryz.f79.ntmps, [(4, .box 0 0), (5, .box 4 0), (94, .itr 6), (96, .bool false)], [.box none 147 [.nmp, .nmp, .nmp], .gone, .gone, .map ((fixedL K).map k1) ((fixedL K).map v1), .box none 147 [.fm (K.map idk) (K.map Report.av), .fm ((goneL K).map k1) ((goneL K).map v1), .mp 3], .iter (left.map idk) (left.map Report.av) cur, .iter (left3.map idk) (left3.map Report.av) cur3]⟩ ac wd := hS.perm 3 rfl (perm_zipM ((hC.perm hdone3).unique (fixedL_inv hgood (goneL_inv hgood)))) (by simp)
            refine reg [] [4] hG hS (env := [(4, .box 0 0)]) (own := [.box none 147 [.fm (K.map idk) (K.map Report.av), .fm ((goneL K).map k1) ((goneL K).map v1), .mp 3], .gone, .gone, .map ((fixedL K).map k1) ((fixedL K).map v1), .box none 147 [.fm (K.map idk) (K.map Report.av), .fm ((goneL K).map k1) ((goneL K).map v1), .mp 3], .iter (left.map idk) (left.map Report.av) cur, .iter (left3.map idk) (left3.map Report.av) cur3]) (obs := []) (by kernel_rfl) (trivial) fun ac wd hS => ?_
            rw [show (deskAV (knownL l known) : AV) = .agg [.fm (K.map idk) (K.map Report.av), .fm ((goneL K).map k1) ((goneL K).map v1), .fm ((fixedL K).map k1) ((fixedL K).map v1)] from by rw [hKe]; rfl]
            exact retz Tryz.func79 rfl hB hBd hS (by kernel_rfl) rfl
          · intro lp3 lq3 r3 hmid3 ac wd hS
            have hperm23 := perm_mid hperm3 hmid3
            have hrK3 : r3 ∈ K := mem_left hperm3 hmid3
            have hlt3 : (lp3 ++ lq3).length < mm3 := by rw [← hmm3, hmid3]; simp
            refine regT [] [4, 5, 94, 96] hG hS (env := [(4, .box 0 0), (5, .box 4 0), (94, .itr 6), (96, .bool true)]) (own := [.box none 147 [.nmp, .nmp, .nmp], .gone, .gone, .map (F.map k1) (F.map v1), .box none 147 [.fm (K.map idk) (K.map Report.av), .fm ((goneL K).map k1) ((goneL K).map v1), .mp 3], .iter (left.map idk) (left.map Report.av) cur, .iter ((lp3 ++ lq3).map idk) ((lp3 ++ lq3).map Report.av) (some (.int .i64 r3.Id, Report.av r3))]) (obs := []) (by kernel_rfl) (by rfl) (trivial) fun ac wd hS => ?_
            refine runs_seq ?_
            refine cond_yes hS (c := true) (by kernel_rfl) rfl ?_
            refine runs_skip ?_
            refine runs_block ?_
            refine runs_seq ?_
            refine reg [] [4, 5, 94, 15] hG hS (env := [(4, .box 0 0), (5, .box 4 0), (94, .itr 6), (15, .box 7 0)]) (own := [.box none 147 [.nmp, .nmp, .nmp], .gone, .gone, .map (F.map k1) (F.map v1), .box none 147 [.fm (K.map idk) (K.map Report.av), .fm ((goneL K).map k1) ((goneL K).map v1), .mp 3], .iter (left.map idk) (left.map Report.av) cur, .iter ((lp3 ++ lq3).map idk) ((lp3 ++ lq3).map Report.av) (some (.int .i64 r3.Id, Report.av r3)), .box none 73 [.int .i64 r3.Id, .int .i64 r3.Source, .int .i64 r3.Account, .int .i64 r3.Made, .int .i64 r3.About, .int .u8 (U8.i r3.Kind), .int .i64 r3.Cents, .int .i64 r3.Of]]) (obs := []) (by kernel_rfl) (trivial) fun ac wd hS => ?_
            refine runs_seq ?_
            refine reg [(3, .av (.tup [Report.av ((getR K r3.Of).getD zeroR), .bool (aimsB K r3)]))] [4, 5, 94, 15, 16, 17] hG hS (env := [(4, .box 0 0), (5, .box 4 0), (94, .itr 6), (15, .box 7 0), (16, .box 8 0), (17, .bool (aimsB K r3))]) (own := [.box none 147 [.nmp, .nmp, .nmp], .gone, .gone, .map (F.map k1) (F.map v1), .box none 147 [.fm (K.map idk) (K.map Report.av), .fm ((goneL K).map k1) ((goneL K).map v1), .mp 3], .iter (left.map idk) (left.map Report.av) cur, .iter ((lp3 ++ lq3).map idk) ((lp3 ++ lq3).map Report.av) (some (.int .i64 r3.Id, Report.av r3)), .box none 73 [.int .i64 r3.Id, .int .i64 r3.Source, .int .i64 r3.Account, .int .i64 r3.Made, .int .i64 r3.About, .int .u8 (U8.i r3.Kind), .int .i64 r3.Cents, .int .i64 r3.Of], .box none 73 [.int .i64 (((getR K r3.Of).getD zeroR).Id), .int .i64 (((getR K r3.Of).getD zeroR).Source), .int .i64 (((getR K r3.Of).getD zeroR).Account), .int .i64 (((getR K r3.Of).getD zeroR).Made), .int .i64 (((getR K r3.Of).getD zeroR).About), .int .u8 (U8.i ((getR K r3.Of).getD zeroR).Kind), .int .i64 (((getR K r3.Of).getD zeroR).Cents), .int .i64 (((getR K r3.Of).getD zeroR).Of)]]) (obs := [CallA Tryz.prog GT 105 [.agg [.fm (K.map idk) (K.map Report.av)], Report.av r3] (.tup [Report.av ((getR K r3.Of).getD zeroR), .bool (aimsB K r3)])]) (by kernel_rfl) ((aim_ok _ _ hnd.1)) fun ac wd hS => ?_
            refine runs_seq ?_
            refine runs_seq ?_
            rcases Bool.eq_false_or_eq_true (((U8.i r3.Kind) != 8)) with hb1 | hb1
            · skip
              refine drw [(3, .dec true)] [4, 5, 94, 15, 16, 140] hG hS (env := [(4, .box 0 0), (5, .box 4 0), (94, .itr 6), (15, .box 7 0), (16, .box 8 0), (140, .bool true)]) (own := [.box none 147 [.nmp, .nmp, .nmp], .gone, .gone, .map (F.map k1) (F.map v1), .box none 147 [.fm (K.map idk) (K.map Report.av), .fm ((goneL K).map k1) ((goneL K).map v1), .mp 3], .iter (left.map idk) (left.map Report.av) cur, .iter ((lp3 ++ lq3).map idk) ((lp3 ++ lq3).map Report.av) (some (.int .i64 r3.Id, Report.av r3)), .box none 73 [.int .i64 r3.Id, .int .i64 r3.Source, .int .i64 r3.Account, .int .i64 r3.Made, .int .i64 r3.About, .int .u8 (U8.i r3.Kind), .int .i64 r3.Cents, .int .i64 r3.Of], .box none 73 [.int .i64 (((getR K r3.Of).getD zeroR).Id), .int .i64 (((getR K r3.Of).getD zeroR).Source), .int .i64 (((getR K r3.Of).getD zeroR).Account), .int .i64 (((getR K r3.Of).getD zeroR).Made), .int .i64 (((getR K r3.Of).getD zeroR).About), .int .u8 (U8.i ((getR K r3.Of).getD zeroR).Kind), .int .i64 (((getR K r3.Of).getD zeroR).Cents), .int .i64 (((getR K r3.Of).getD zeroR).Of)]]) (obs := [((U8.i r3.Kind) != 8) = true]) (by kernel_rfl) (by kernel_rfl) (hb1) fun ac wd hS => ?_
              refine cond_yes hS (c := true) (by kernel_rfl) rfl ?_
              refine runs_exit (by rfl) ?_
              refine runs_inLoop ?_
              exact ihm3 _ hlt3 _ _ (lp3 ++ lq3) (done3 ++ [r3]) (some (.int .i64 r3.Id, Report.av r3)) F hperm23 (c_skip1 hC hb1) (hS.sel [0, 1, 2, 3, 4, 5, 6] [4, 5, 94] (by kernel_rfl)) rfl
            · skip
              rcases Bool.eq_false_or_eq_true (aimsB K r3) with hb2 | hb2
              · skip
                rcases Bool.eq_false_or_eq_true (factB ((getR K r3.Of).getD zeroR)) with hb3 | hb3
                · skip
                  rcases Bool.eq_false_or_eq_true (inB 0 (mostI (U8.i ((getR K r3.Of).getD zeroR).Kind)) [r3.Cents]) with hb4 | hb4
                  · skip
                    rcases Bool.eq_false_or_eq_true ((getM (goneL K) r3.Id).isSome) with hb5 | hb5
                    · skip
                      refine drw [(3, .dec false), (7, .dec false), (9, .av (.bool (factB ((getR K r3.Of).getD zeroR)))), (12, .dec false), (15, .av (.int .i64 (mostI (U8.i ((getR K r3.Of).getD zeroR).Kind)))), (20, .av (.bool (inB 0 (mostI (U8.i ((getR K r3.Of).getD zeroR).Kind)) [r3.Cents]))), (23, .dec false), (27, .lend (.bool ((getM (goneL K) r3.Id).isSome))), (29, .dec true)] [4, 5, 94, 15, 16, 140] hG hS (env := [(4, .box 0 0), (5, .box 4 0), (94, .itr 6), (15, .box 7 0), (16, .box 8 0), (140, .bool true)]) (own := [.box none 147 [.nmp, .nmp, .nmp], .gone, .gone, .map (F.map k1) (F.map v1), .box none 147 [.fm (K.map idk) (K.map Report.av), .fm ((goneL K).map k1) ((goneL K).map v1), .mp 3], .iter (left.map idk) (left.map Report.av) cur, .iter ((lp3 ++ lq3).map idk) ((lp3 ++ lq3).map Report.av) (some (.int .i64 r3.Id, Report.av r3)), .box none 73 [.int .i64 r3.Id, .int .i64 r3.Source, .int .i64 r3.Account, .int .i64 r3.Made, .int .i64 r3.About, .int .u8 (U8.i r3.Kind), .int .i64 r3.Cents, .int .i64 r3.Of], .box none 73 [.int .i64 (((getR K r3.Of).getD zeroR).Id), .int .i64 (((getR K r3.Of).getD zeroR).Source), .int .i64 (((getR K r3.Of).getD zeroR).Account), .int .i64 (((getR K r3.Of).getD zeroR).Made), .int .i64 (((getR K r3.Of).getD zeroR).About), .int .u8 (U8.i ((getR K r3.Of).getD zeroR).Kind), .int .i64 (((getR K r3.Of).getD zeroR).Cents), .int .i64 (((getR K r3.Of).getD zeroR).Of)]]) (obs := [((U8.i r3.Kind) != 8) = false, (!aimsB K r3) = false, CallA Tryz.prog GT 106 [Report.av ((getR K r3.Of).getD zeroR)] (.bool (factB ((getR K r3.Of).getD zeroR))), (!factB ((getR K r3.Of).getD zeroR)) = false, 0 ≤ (U8.i ((getR K r3.Of).getD zeroR).Kind : Int) ∧ (U8.i ((getR K r3.Of).getD zeroR).Kind : Int) < 10 ∧ ((([.int .i64 0, .int .i64 0, .int .i64 1000000000000, .int .i64 1000000000000, .int .i64 1000000000000, .int .i64 10000, .int .i64 1000000000000, .int .i64 0, .int .i64 1000000000000, .int .i64 0] : List AV)).drop (0 + (U8.i ((getR K r3.Of).getD zeroR).Kind : Int).toNat * 1)).take 1 = AV.cells (.int .i64 (mostI (U8.i ((getR K r3.Of).getD zeroR).Kind))), CallA Tryz.prog GT 77 [.int .i64 0, .int .i64 (mostI (U8.i ((getR K r3.Of).getD zeroR).Kind)), .sl [.int .i64 r3.Cents]] (.bool (inB 0 (mostI (U8.i ((getR K r3.Of).getD zeroR).Kind)) [r3.Cents])), (!inB 0 (mostI (U8.i ((getR K r3.Of).getD zeroR).Kind)) [r3.Cents]) = false, CallA Tryz.prog GT 107 [.agg [.fm (K.map idk) (K.map Report.av), .fm ((goneL K).map k1) ((goneL K).map v1), .fm (F.map k1) (F.map v1)], .int .i64 r3.Id] (.bool ((getM (goneL K) r3.Id).isSome)), (getM (goneL K) r3.Id).isSome = true]) (by kernel_rfl) (by kernel_rfl) (⟨hb1, by rw [hb2]; rfl, (fact_ok _), by rw [hb3]; rfl, (⟨U8.nn _, by have h9 : decide (_ ≤ _) = true := hb3; simp only [decide_eq_true_eq] at h9; omega, most_at (U8.nn _) (by have h9 : decide (_ ≤ _) = true := hb3; simp only [decide_eq_true_eq] at h9; omega)⟩), (in_ok77 _ _ [r3.Cents] (by simp)), by rw [hb4]; rfl, (away_ok _ _ _ _ _ _ (goneL_inv hgood).nd), hb5⟩) fun ac wd hS => ?_
                      refine cond_yes hS (c := true) (by kernel_rfl) rfl ?_
                      refine runs_exit (by rfl) ?_
                      refine runs_inLoop ?_
                      exact ihm3 _ hlt3 _ _ (lp3 ++ lq3) (done3 ++ [r3]) (some (.int .i64 r3.Id, Report.av r3)) F hperm23 (c_skip5 hC hb5) (hS.sel [0, 1, 2, 3, 4, 5, 6] [4, 5, 94] (by kernel_rfl)) rfl
                    · skip
                      rcases Bool.eq_false_or_eq_true ((getM (goneL K) (((getR K r3.Of).getD zeroR).Id)).isSome) with hb6 | hb6
                      · skip
                        refine drw [(3, .dec false), (7, .dec false), (9, .av (.bool (factB ((getR K r3.Of).getD zeroR)))), (12, .dec false), (15, .av (.int .i64 (mostI (U8.i ((getR K r3.Of).getD zeroR).Kind)))), (20, .av (.bool (inB 0 (mostI (U8.i ((getR K r3.Of).getD zeroR).Kind)) [r3.Cents]))), (23, .dec false), (27, .lend (.bool ((getM (goneL K) r3.Id).isSome))), (29, .dec false), (33, .lend (.bool ((getM (goneL K) (((getR K r3.Of).getD zeroR).Id)).isSome))), (34, .dec true)] [4, 5, 94, 15, 16, 140] hG hS (env := [(4, .box 0 0), (5, .box 4 0), (94, .itr 6), (15, .box 7 0), (16, .box 8 0), (140, .bool true)]) (own := [.box none 147 [.nmp, .nmp, .nmp], .gone, .gone, .map (F.map k1) (F.map v1), .box none 147 [.fm (K.map idk) (K.map Report.av), .fm ((goneL K).map k1) ((goneL K).map v1), .mp 3], .iter (left.map idk) (left.map Report.av) cur, .iter ((lp3 ++ lq3).map idk) ((lp3 ++ lq3).map Report.av) (some (.int .i64 r3.Id, Report.av r3)), .box none 73 [.int .i64 r3.Id, .int .i64 r3.Source, .int .i64 r3.Account, .int .i64 r3.Made, .int .i64 r3.About, .int .u8 (U8.i r3.Kind), .int .i64 r3.Cents, .int .i64 r3.Of], .box none 73 [.int .i64 (((getR K r3.Of).getD zeroR).Id), .int .i64 (((getR K r3.Of).getD zeroR).Source), .int .i64 (((getR K r3.Of).getD zeroR).Account), .int .i64 (((getR K r3.Of).getD zeroR).Made), .int .i64 (((getR K r3.Of).getD zeroR).About), .int .u8 (U8.i ((getR K r3.Of).getD zeroR).Kind), .int .i64 (((getR K r3.Of).getD zeroR).Cents), .int .i64 (((getR K r3.Of).getD zeroR).Of)]]) (obs := [((U8.i r3.Kind) != 8) = false, (!aimsB K r3) = false, CallA Tryz.prog GT 106 [Report.av ((getR K r3.Of).getD zeroR)] (.bool (factB ((getR K r3.Of).getD zeroR))), (!factB ((getR K r3.Of).getD zeroR)) = false, 0 ≤ (U8.i ((getR K r3.Of).getD zeroR).Kind : Int) ∧ (U8.i ((getR K r3.Of).getD zeroR).Kind : Int) < 10 ∧ ((([.int .i64 0, .int .i64 0, .int .i64 1000000000000, .int .i64 1000000000000, .int .i64 1000000000000, .int .i64 10000, .int .i64 1000000000000, .int .i64 0, .int .i64 1000000000000, .int .i64 0] : List AV)).drop (0 + (U8.i ((getR K r3.Of).getD zeroR).Kind : Int).toNat * 1)).take 1 = AV.cells (.int .i64 (mostI (U8.i ((getR K r3.Of).getD zeroR).Kind))), CallA Tryz.prog GT 77 [.int .i64 0, .int .i64 (mostI (U8.i ((getR K r3.Of).getD zeroR).Kind)), .sl [.int .i64 r3.Cents]] (.bool (inB 0 (mostI (U8.i ((getR K r3.Of).getD zeroR).Kind)) [r3.Cents])), (!inB 0 (mostI (U8.i ((getR K r3.Of).getD zeroR).Kind)) [r3.Cents]) = false, CallA Tryz.prog GT 107 [.agg [.fm (K.map idk) (K.map Report.av), .fm ((goneL K).map k1) ((goneL K).map v1), .fm (F.map k1) (F.map v1)], .int .i64 r3.Id] (.bool ((getM (goneL K) r3.Id).isSome)), (getM (goneL K) r3.Id).isSome = false, CallA Tryz.prog GT 107 [.agg [.fm (K.map idk) (K.map Report.av), .fm ((goneL K).map k1) ((goneL K).map v1), .fm (F.map k1) (F.map v1)], .int .i64 (((getR K r3.Of).getD zeroR).Id)] (.bool ((getM (goneL K) (((getR K r3.Of).getD zeroR).Id)).isSome)), (getM (goneL K) (((getR K r3.Of).getD zeroR).Id)).isSome = true]) (by kernel_rfl) (by kernel_rfl) (⟨hb1, by rw [hb2]; rfl, (fact_ok _), by rw [hb3]; rfl, (⟨U8.nn _, by have h9 : decide (_ ≤ _) = true := hb3; simp only [decide_eq_true_eq] at h9; omega, most_at (U8.nn _) (by have h9 : decide (_ ≤ _) = true := hb3; simp only [decide_eq_true_eq] at h9; omega)⟩), (in_ok77 _ _ [r3.Cents] (by simp)), by rw [hb4]; rfl, (away_ok _ _ _ _ _ _ (goneL_inv hgood).nd), hb5, (away_ok _ _ _ _ _ _ (goneL_inv hgood).nd), hb6⟩) fun ac wd hS => ?_
                        refine cond_yes hS (c := true) (by kernel_rfl) rfl ?_
                        refine runs_exit (by rfl) ?_
                        refine runs_inLoop ?_
                        exact ihm3 _ hlt3 _ _ (lp3 ++ lq3) (done3 ++ [r3]) (some (.int .i64 r3.Id, Report.av r3)) F hperm23 (c_skip6 hC hb6) (hS.sel [0, 1, 2, 3, 4, 5, 6] [4, 5, 94] (by kernel_rfl)) rfl
                      · skip
                        refine drw [(3, .dec false), (7, .dec false), (9, .av (.bool (factB ((getR K r3.Of).getD zeroR)))), (12, .dec false), (15, .av (.int .i64 (mostI (U8.i ((getR K r3.Of).getD zeroR).Kind)))), (20, .av (.bool (inB 0 (mostI (U8.i ((getR K r3.Of).getD zeroR).Kind)) [r3.Cents]))), (23, .dec false), (27, .lend (.bool ((getM (goneL K) r3.Id).isSome))), (29, .dec false), (33, .lend (.bool ((getM (goneL K) (((getR K r3.Of).getD zeroR).Id)).isSome))), (34, .dec false)] [4, 5, 94, 15, 16, 140] hG hS (env := [(4, .box 0 0), (5, .box 4 0), (94, .itr 6), (15, .box 7 0), (16, .box 8 0), (140, .bool false)]) (own := [.box none 147 [.nmp, .nmp, .nmp], .gone, .gone, .map (F.map k1) (F.map v1), .box none 147 [.fm (K.map idk) (K.map Report.av), .fm ((goneL K).map k1) ((goneL K).map v1), .mp 3], .iter (left.map idk) (left.map Report.av) cur, .iter ((lp3 ++ lq3).map idk) ((lp3 ++ lq3).map Report.av) (some (.int .i64 r3.Id, Report.av r3)), .box none 73 [.int .i64 r3.Id, .int .i64 r3.Source, .int .i64 r3.Account, .int .i64 r3.Made, .int .i64 r3.About, .int .u8 (U8.i r3.Kind), .int .i64 r3.Cents, .int .i64 r3.Of], .box none 73 [.int .i64 (((getR K r3.Of).getD zeroR).Id), .int .i64 (((getR K r3.Of).getD zeroR).Source), .int .i64 (((getR K r3.Of).getD zeroR).Account), .int .i64 (((getR K r3.Of).getD zeroR).Made), .int .i64 (((getR K r3.Of).getD zeroR).About), .int .u8 (U8.i ((getR K r3.Of).getD zeroR).Kind), .int .i64 (((getR K r3.Of).getD zeroR).Cents), .int .i64 (((getR K r3.Of).getD zeroR).Of)]]) (obs := [((U8.i r3.Kind) != 8) = false, (!aimsB K r3) = false, CallA Tryz.prog GT 106 [Report.av ((getR K r3.Of).getD zeroR)] (.bool (factB ((getR K r3.Of).getD zeroR))), (!factB ((getR K r3.Of).getD zeroR)) = false, 0 ≤ (U8.i ((getR K r3.Of).getD zeroR).Kind : Int) ∧ (U8.i ((getR K r3.Of).getD zeroR).Kind : Int) < 10 ∧ ((([.int .i64 0, .int .i64 0, .int .i64 1000000000000, .int .i64 1000000000000, .int .i64 1000000000000, .int .i64 10000, .int .i64 1000000000000, .int .i64 0, .int .i64 1000000000000, .int .i64 0] : List AV)).drop (0 + (U8.i ((getR K r3.Of).getD zeroR).Kind : Int).toNat * 1)).take 1 = AV.cells (.int .i64 (mostI (U8.i ((getR K r3.Of).getD zeroR).Kind))), CallA Tryz.prog GT 77 [.int .i64 0, .int .i64 (mostI (U8.i ((getR K r3.Of).getD zeroR).Kind)), .sl [.int .i64 r3.Cents]] (.bool (inB 0 (mostI (U8.i ((getR K r3.Of).getD zeroR).Kind)) [r3.Cents])), (!inB 0 (mostI (U8.i ((getR K r3.Of).getD zeroR).Kind)) [r3.Cents]) = false, CallA Tryz.prog GT 107 [.agg [.fm (K.map idk) (K.map Report.av), .fm ((goneL K).map k1) ((goneL K).map v1), .fm (F.map k1) (F.map v1)], .int .i64 r3.Id] (.bool ((getM (goneL K) r3.Id).isSome)), (getM (goneL K) r3.Id).isSome = false, CallA Tryz.prog GT 107 [.agg [.fm (K.map idk) (K.map Report.av), .fm ((goneL K).map k1) ((goneL K).map v1), .fm (F.map k1) (F.map v1)], .int .i64 (((getR K r3.Of).getD zeroR).Id)] (.bool ((getM (goneL K) (((getR K r3.Of).getD zeroR).Id)).isSome)), (getM (goneL K) (((getR K r3.Of).getD zeroR).Id)).isSome = false]) (by kernel_rfl) (by kernel_rfl) (⟨hb1, by rw [hb2]; rfl, (fact_ok _), by rw [hb3]; rfl, (⟨U8.nn _, by have h9 : decide (_ ≤ _) = true := hb3; simp only [decide_eq_true_eq] at h9; omega, most_at (U8.nn _) (by have h9 : decide (_ ≤ _) = true := hb3; simp only [decide_eq_true_eq] at h9; omega)⟩), (in_ok77 _ _ [r3.Cents] (by simp)), by rw [hb4]; rfl, (away_ok _ _ _ _ _ _ (goneL_inv hgood).nd), hb5, (away_ok _ _ _ _ _ _ (goneL_inv hgood).nd), hb6⟩) fun ac wd hS => ?_
                        refine cond_no hS (c := false) (by kernel_rfl) rfl ?_
                        refine runs_skip ?_
                        refine runs_seq ?_
                        refine reg [(4, .av (.tup [.int .i64 ((getM F (((getR K r3.Of).getD zeroR).Id)).getD 0), .bool ((getM F (((getR K r3.Of).getD zeroR).Id)).isSome)]))] [4, 5, 94, 15, 16, 18, 19] hG hS (env := [(4, .box 0 0), (5, .box 4 0), (94, .itr 6), (15, .box 7 0), (16, .box 8 0), (18, .int .i64 ((getM F (((getR K r3.Of).getD zeroR).Id)).getD 0)), (19, .bool ((getM F (((getR K r3.Of).getD zeroR).Id)).isSome))]) (own := [.box none 147 [.nmp, .nmp, .nmp], .gone, .gone, .map (F.map k1) (F.map v1), .box none 147 [.fm (K.map idk) (K.map Report.av), .fm ((goneL K).map k1) ((goneL K).map v1), .mp 3], .iter (left.map idk) (left.map Report.av) cur, .iter ((lp3 ++ lq3).map idk) ((lp3 ++ lq3).map Report.av) (some (.int .i64 r3.Id, Report.av r3)), .box none 73 [.int .i64 r3.Id, .int .i64 r3.Source, .int .i64 r3.Account, .int .i64 r3.Made, .int .i64 r3.About, .int .u8 (U8.i r3.Kind), .int .i64 r3.Cents, .int .i64 r3.Of], .box none 73 [.int .i64 (((getR K r3.Of).getD zeroR).Id), .int .i64 (((getR K r3.Of).getD zeroR).Source), .int .i64 (((getR K r3.Of).getD zeroR).Account), .int .i64 (((getR K r3.Of).getD zeroR).Made), .int .i64 (((getR K r3.Of).getD zeroR).About), .int .u8 (U8.i ((getR K r3.Of).getD zeroR).Kind), .int .i64 (((getR K r3.Of).getD zeroR).Cents), .int .i64 (((getR K r3.Of).getD zeroR).Of)]]) (obs := [LookOK Tryz.prog 3 (F.map k1) (F.map v1) (.int .i64 (((getR K r3.Of).getD zeroR).Id)) (.int .i64 ((getM F (((getR K r3.Of).getD zeroR).Id)).getD 0)) (.int .i64 0) (getM F (((getR K r3.Of).getD zeroR).Id)).isSome]) (by kernel_rfl) ((look_M hC.nd _)) fun ac wd hS => ?_
                        refine runs_seq ?_
                        refine reg [(4, .av (Report.av ((getR K ((getM F (((getR K r3.Of).getD zeroR).Id)).getD 0)).getD zeroR)))] [4, 5, 94, 15, 16, 18, 19, 20] hG hS (env := [(4, .box 0 0), (5, .box 4 0), (94, .itr 6), (15, .box 7 0), (16, .box 8 0), (18, .int .i64 ((getM F (((getR K r3.Of).getD zeroR).Id)).getD 0)), (19, .bool ((getM F (((getR K r3.Of).getD zeroR).Id)).isSome)), (20, .box 9 0)]) (own := [.box none 147 [.nmp, .nmp, .nmp], .gone, .gone, .map (F.map k1) (F.map v1), .box none 147 [.fm (K.map idk) (K.map Report.av), .fm ((goneL K).map k1) ((goneL K).map v1), .mp 3], .iter (left.map idk) (left.map Report.av) cur, .iter ((lp3 ++ lq3).map idk) ((lp3 ++ lq3).map Report.av) (some (.int .i64 r3.Id, Report.av r3)), .box none 73 [.int .i64 r3.Id, .int .i64 r3.Source, .int .i64 r3.Account, .int .i64 r3.Made, .int .i64 r3.About, .int .u8 (U8.i r3.Kind), .int .i64 r3.Cents, .int .i64 r3.Of], .box none 73 [.int .i64 (((getR K r3.Of).getD zeroR).Id), .int .i64 (((getR K r3.Of).getD zeroR).Source), .int .i64 (((getR K r3.Of).getD zeroR).Account), .int .i64 (((getR K r3.Of).getD zeroR).Made), .int .i64 (((getR K r3.Of).getD zeroR).About), .int .u8 (U8.i ((getR K r3.Of).getD zeroR).Kind), .int .i64 (((getR K r3.Of).getD zeroR).Cents), .int .i64 (((getR K r3.Of).getD zeroR).Of)], .box none 73 [.int .i64 (((getR K ((getM F (((getR K r3.Of).getD zeroR).Id)).getD 0)).getD zeroR).Id), .int .i64 (((getR K ((getM F (((getR K r3.Of).getD zeroR).Id)).getD 0)).getD zeroR).Source), .int .i64 (((getR K ((getM F (((getR K r3.Of).getD zeroR).Id)).getD 0)).getD zeroR).Account), .int .i64 (((getR K ((getM F (((getR K r3.Of).getD zeroR).Id)).getD 0)).getD zeroR).Made), .int .i64 (((getR K ((getM F (((getR K r3.Of).getD zeroR).Id)).getD 0)).getD zeroR).About), .int .u8 (U8.i ((getR K ((getM F (((getR K r3.Of).getD zeroR).Id)).getD 0)).getD zeroR).Kind), .int .i64 (((getR K ((getM F (((getR K r3.Of).getD zeroR).Id)).getD 0)).getD zeroR).Cents), .int .i64 (((getR K ((getM F (((getR K r3.Of).getD zeroR).Id)).getD 0)).getD zeroR).Of)]]) (obs := [∃ c, LookOK Tryz.prog 3 (K.map idk) (K.map Report.av) (.int .i64 ((getM F (((getR K r3.Of).getD zeroR).Id)).getD 0)) (Report.av ((getR K ((getM F (((getR K r3.Of).getD zeroR).Id)).getD 0)).getD zeroR)) (.agg [.int .i64 0, .int .i64 0, .int .i64 0, .int .i64 0, .int .i64 0, .int .u8 0, .int .i64 0, .int .i64 0]) c]) (by kernel_rfl) (⟨_, (look_R hnd.1 _)⟩) fun ac wd hS => ?_
                        refine runs_seq ?_
                        rcases Bool.eq_false_or_eq_true ((getM F (((getR K r3.Of).getD zeroR).Id)).isSome) with hb7 | hb7
                        · skip
                          rcases Bool.eq_false_or_eq_true (decide ((orI [cmpI (((getR K ((getM F (((getR K r3.Of).getD zeroR).Id)).getD 0)).getD zeroR).Made) r3.Made, cmpI ((getM F (((getR K r3.Of).getD zeroR).Id)).getD 0) r3.Id]) < 0)) with hb8 | hb8
                          · skip
                            refine drw [(2, .dec false), (7, .av (.int .i64 (cmpI (((getR K ((getM F (((getR K r3.Of).getD zeroR).Id)).getD 0)).getD zeroR).Made) r3.Made))), (11, .av (.int .i64 (cmpI ((getM F (((getR K r3.Of).getD zeroR).Id)).getD 0) r3.Id))), (13, .av (.int .i64 (orI [cmpI (((getR K ((getM F (((getR K r3.Of).getD zeroR).Id)).getD 0)).getD zeroR).Made) r3.Made, cmpI ((getM F (((getR K r3.Of).getD zeroR).Id)).getD 0) r3.Id]))), (15, .dec true)] [4, 5, 94, 15, 16, 169] hG hS (env := [(4, .box 0 0), (5, .box 4 0), (94, .itr 6), (15, .box 7 0), (16, .box 8 0), (169, .bool true)]) (own := [.box none 147 [.nmp, .nmp, .nmp], .gone, .gone, .map (F.map k1) (F.map v1), .box none 147 [.fm (K.map idk) (K.map Report.av), .fm ((goneL K).map k1) ((goneL K).map v1), .mp 3], .iter (left.map idk) (left.map Report.av) cur, .iter ((lp3 ++ lq3).map idk) ((lp3 ++ lq3).map Report.av) (some (.int .i64 r3.Id, Report.av r3)), .box none 73 [.int .i64 r3.Id, .int .i64 r3.Source, .int .i64 r3.Account, .int .i64 r3.Made, .int .i64 r3.About, .int .u8 (U8.i r3.Kind), .int .i64 r3.Cents, .int .i64 r3.Of], .box none 73 [.int .i64 (((getR K r3.Of).getD zeroR).Id), .int .i64 (((getR K r3.Of).getD zeroR).Source), .int .i64 (((getR K r3.Of).getD zeroR).Account), .int .i64 (((getR K r3.Of).getD zeroR).Made), .int .i64 (((getR K r3.Of).getD zeroR).About), .int .u8 (U8.i ((getR K r3.Of).getD zeroR).Kind), .int .i64 (((getR K r3.Of).getD zeroR).Cents), .int .i64 (((getR K r3.Of).getD zeroR).Of)], .box none 73 [.int .i64 (((getR K ((getM F (((getR K r3.Of).getD zeroR).Id)).getD 0)).getD zeroR).Id), .int .i64 (((getR K ((getM F (((getR K r3.Of).getD zeroR).Id)).getD 0)).getD zeroR).Source), .int .i64 (((getR K ((getM F (((getR K r3.Of).getD zeroR).Id)).getD 0)).getD zeroR).Account), .int .i64 (((getR K ((getM F (((getR K r3.Of).getD zeroR).Id)).getD 0)).getD zeroR).Made), .int .i64 (((getR K ((getM F (((getR K r3.Of).getD zeroR).Id)).getD 0)).getD zeroR).About), .int .u8 (U8.i ((getR K ((getM F (((getR K r3.Of).getD zeroR).Id)).getD 0)).getD zeroR).Kind), .int .i64 (((getR K ((getM F (((getR K r3.Of).getD zeroR).Id)).getD 0)).getD zeroR).Cents), .int .i64 (((getR K ((getM F (((getR K r3.Of).getD zeroR).Id)).getD 0)).getD zeroR).Of)]]) (obs := [(!(getM F (((getR K r3.Of).getD zeroR).Id)).isSome) = false, CallA Tryz.prog GT 60 [.int .i64 (((getR K ((getM F (((getR K r3.Of).getD zeroR).Id)).getD 0)).getD zeroR).Made), .int .i64 r3.Made] (.int .i64 (cmpI (((getR K ((getM F (((getR K r3.Of).getD zeroR).Id)).getD 0)).getD zeroR).Made) r3.Made)), CallA Tryz.prog GT 60 [.int .i64 ((getM F (((getR K r3.Of).getD zeroR).Id)).getD 0), .int .i64 r3.Id] (.int .i64 (cmpI ((getM F (((getR K r3.Of).getD zeroR).Id)).getD 0) r3.Id)), CallA Tryz.prog GT 59 [.sl [.int .i64 (cmpI (((getR K ((getM F (((getR K r3.Of).getD zeroR).Id)).getD 0)).getD zeroR).Made) r3.Made), .int .i64 (cmpI ((getM F (((getR K r3.Of).getD zeroR).Id)).getD 0) r3.Id)]] (.int .i64 (orI [cmpI (((getR K ((getM F (((getR K r3.Of).getD zeroR).Id)).getD 0)).getD zeroR).Made) r3.Made, cmpI ((getM F (((getR K r3.Of).getD zeroR).Id)).getD 0) r3.Id])), decide ((orI [cmpI (((getR K ((getM F (((getR K r3.Of).getD zeroR).Id)).getD 0)).getD zeroR).Made) r3.Made, cmpI ((getM F (((getR K r3.Of).getD zeroR).Id)).getD 0) r3.Id]) < 0) = true]) (by kernel_rfl) (by kernel_rfl) (⟨by rw [hb7]; rfl, (cmp_ok60 _ _), (cmp_ok60 _ _), (or_ok [cmpI (((getR K ((getM F (((getR K r3.Of).getD zeroR).Id)).getD 0)).getD zeroR).Made) r3.Made, cmpI ((getM F (((getR K r3.Of).getD zeroR).Id)).getD 0) r3.Id] (by simp)), hb8⟩) fun ac wd hS => ?_
                            refine cond_yes hS (c := true) (by kernel_rfl) rfl ?_
                            refine reg [(6, .put ((putM F (((getR K r3.Of).getD zeroR).Id) r3.Id).map k1) ((putM F (((getR K r3.Of).getD zeroR).Id) r3.Id).map v1))] [4, 5, 94] hG hS (env := [(4, .box 0 0), (5, .box 4 0), (94, .itr 6)]) (own := [.box none 147 [.nmp, .nmp, .nmp], .gone, .gone, .map ((putM F (((getR K r3.Of).getD zeroR).Id) r3.Id).map k1) ((putM F (((getR K r3.Of).getD zeroR).Id) r3.Id).map v1), .box none 147 [.fm (K.map idk) (K.map Report.av), .fm ((goneL K).map k1) ((goneL K).map v1), .mp 3], .iter (left.map idk) (left.map Report.av) cur, .iter ((lp3 ++ lq3).map idk) ((lp3 ++ lq3).map Report.av) (some (.int .i64 r3.Id, Report.av r3)), .box none 73 [.int .i64 r3.Id, .int .i64 r3.Source, .int .i64 r3.Account, .int .i64 r3.Made, .int .i64 r3.About, .int .u8 (U8.i r3.Kind), .int .i64 r3.Cents, .int .i64 r3.Of], .box none 73 [.int .i64 (((getR K r3.Of).getD zeroR).Id), .int .i64 (((getR K r3.Of).getD zeroR).Source), .int .i64 (((getR K r3.Of).getD zeroR).Account), .int .i64 (((getR K r3.Of).getD zeroR).Made), .int .i64 (((getR K r3.Of).getD zeroR).About), .int .u8 (U8.i ((getR K r3.Of).getD zeroR).Kind), .int .i64 (((getR K r3.Of).getD zeroR).Cents), .int .i64 (((getR K r3.Of).getD zeroR).Of)], .box none 73 [.int .i64 (((getR K ((getM F (((getR K r3.Of).getD zeroR).Id)).getD 0)).getD zeroR).Id), .int .i64 (((getR K ((getM F (((getR K r3.Of).getD zeroR).Id)).getD 0)).getD zeroR).Source), .int .i64 (((getR K ((getM F (((getR K r3.Of).getD zeroR).Id)).getD 0)).getD zeroR).Account), .int .i64 (((getR K ((getM F (((getR K r3.Of).getD zeroR).Id)).getD 0)).getD zeroR).Made), .int .i64 (((getR K ((getM F (((getR K r3.Of).getD zeroR).Id)).getD 0)).getD zeroR).About), .int .u8 (U8.i ((getR K ((getM F (((getR K r3.Of).getD zeroR).Id)).getD 0)).getD zeroR).Kind), .int .i64 (((getR K ((getM F (((getR K r3.Of).getD zeroR).Id)).getD 0)).getD zeroR).Cents), .int .i64 (((getR K ((getM F (((getR K r3.Of).getD zeroR).Id)).getD 0)).getD zeroR).Of)]]) (obs := [PutOK Tryz.prog 3 (F.map k1) (F.map v1) (.int .i64 (((getR K r3.Of).getD zeroR).Id)) (.int .i64 r3.Id) ((putM F (((getR K r3.Of).getD zeroR).Id) r3.Id).map k1) ((putM F (((getR K r3.Of).getD zeroR).Id) r3.Id).map v1)]) (by kernel_rfl) ((put_M hC.nd _ _)) fun ac wd hS => ?_
                            refine runs_inBlock ?_
                            refine runs_inLoop ?_
                            exact ihm3 _ hlt3 _ _ (lp3 ++ lq3) (done3 ++ [r3]) (some (.int .i64 r3.Id, Report.av r3)) (putM F (((getR K r3.Of).getD zeroR).Id) r3.Id) hperm23 (c_put2 hC (cc_of hb1 hb2 hb3 hb4 hb5 hb6) hb8 hnd.1 (done_sub hperm3) (ne_done hnd.1 hperm3 hmid3)) (hS.sel [0, 1, 2, 3, 4, 5, 6] [4, 5, 94] (by kernel_rfl)) rfl
                          · skip
                            refine drw [(2, .dec false), (7, .av (.int .i64 (cmpI (((getR K ((getM F (((getR K r3.Of).getD zeroR).Id)).getD 0)).getD zeroR).Made) r3.Made))), (11, .av (.int .i64 (cmpI ((getM F (((getR K r3.Of).getD zeroR).Id)).getD 0) r3.Id))), (13, .av (.int .i64 (orI [cmpI (((getR K ((getM F (((getR K r3.Of).getD zeroR).Id)).getD 0)).getD zeroR).Made) r3.Made, cmpI ((getM F (((getR K r3.Of).getD zeroR).Id)).getD 0) r3.Id]))), (15, .dec false)] [4, 5, 94, 15, 16, 169] hG hS (env := [(4, .box 0 0), (5, .box 4 0), (94, .itr 6), (15, .box 7 0), (16, .box 8 0), (169, .bool false)]) (own := [.box none 147 [.nmp, .nmp, .nmp], .gone, .gone, .map (F.map k1) (F.map v1), .box none 147 [.fm (K.map idk) (K.map Report.av), .fm ((goneL K).map k1) ((goneL K).map v1), .mp 3], .iter (left.map idk) (left.map Report.av) cur, .iter ((lp3 ++ lq3).map idk) ((lp3 ++ lq3).map Report.av) (some (.int .i64 r3.Id, Report.av r3)), .box none 73 [.int .i64 r3.Id, .int .i64 r3.Source, .int .i64 r3.Account, .int .i64 r3.Made, .int .i64 r3.About, .int .u8 (U8.i r3.Kind), .int .i64 r3.Cents, .int .i64 r3.Of], .box none 73 [.int .i64 (((getR K r3.Of).getD zeroR).Id), .int .i64 (((getR K r3.Of).getD zeroR).Source), .int .i64 (((getR K r3.Of).getD zeroR).Account), .int .i64 (((getR K r3.Of).getD zeroR).Made), .int .i64 (((getR K r3.Of).getD zeroR).About), .int .u8 (U8.i ((getR K r3.Of).getD zeroR).Kind), .int .i64 (((getR K r3.Of).getD zeroR).Cents), .int .i64 (((getR K r3.Of).getD zeroR).Of)], .box none 73 [.int .i64 (((getR K ((getM F (((getR K r3.Of).getD zeroR).Id)).getD 0)).getD zeroR).Id), .int .i64 (((getR K ((getM F (((getR K r3.Of).getD zeroR).Id)).getD 0)).getD zeroR).Source), .int .i64 (((getR K ((getM F (((getR K r3.Of).getD zeroR).Id)).getD 0)).getD zeroR).Account), .int .i64 (((getR K ((getM F (((getR K r3.Of).getD zeroR).Id)).getD 0)).getD zeroR).Made), .int .i64 (((getR K ((getM F (((getR K r3.Of).getD zeroR).Id)).getD 0)).getD zeroR).About), .int .u8 (U8.i ((getR K ((getM F (((getR K r3.Of).getD zeroR).Id)).getD 0)).getD zeroR).Kind), .int .i64 (((getR K ((getM F (((getR K r3.Of).getD zeroR).Id)).getD 0)).getD zeroR).Cents), .int .i64 (((getR K ((getM F (((getR K r3.Of).getD zeroR).Id)).getD 0)).getD zeroR).Of)]]) (obs := [(!(getM F (((getR K r3.Of).getD zeroR).Id)).isSome) = false, CallA Tryz.prog GT 60 [.int .i64 (((getR K ((getM F (((getR K r3.Of).getD zeroR).Id)).getD 0)).getD zeroR).Made), .int .i64 r3.Made] (.int .i64 (cmpI (((getR K ((getM F (((getR K r3.Of).getD zeroR).Id)).getD 0)).getD zeroR).Made) r3.Made)), CallA Tryz.prog GT 60 [.int .i64 ((getM F (((getR K r3.Of).getD zeroR).Id)).getD 0), .int .i64 r3.Id] (.int .i64 (cmpI ((getM F (((getR K r3.Of).getD zeroR).Id)).getD 0) r3.Id)), CallA Tryz.prog GT 59 [.sl [.int .i64 (cmpI (((getR K ((getM F (((getR K r3.Of).getD zeroR).Id)).getD 0)).getD zeroR).Made) r3.Made), .int .i64 (cmpI ((getM F (((getR K r3.Of).getD zeroR).Id)).getD 0) r3.Id)]] (.int .i64 (orI [cmpI (((getR K ((getM F (((getR K r3.Of).getD zeroR).Id)).getD 0)).getD zeroR).Made) r3.Made, cmpI ((getM F (((getR K r3.Of).getD zeroR).Id)).getD 0) r3.Id])), decide ((orI [cmpI (((getR K ((getM F (((getR K r3.Of).getD zeroR).Id)).getD 0)).getD zeroR).Made) r3.Made, cmpI ((getM F (((getR K r3.Of).getD zeroR).Id)).getD 0) r3.Id]) < 0) = false]) (by kernel_rfl) (by kernel_rfl) (⟨by rw [hb7]; rfl, (cmp_ok60 _ _), (cmp_ok60 _ _), (or_ok [cmpI (((getR K ((getM F (((getR K r3.Of).getD zeroR).Id)).getD 0)).getD zeroR).Made) r3.Made, cmpI ((getM F (((getR K r3.Of).getD zeroR).Id)).getD 0) r3.Id] (by simp)), hb8⟩) fun ac wd hS => ?_
                            refine cond_no hS (c := false) (by kernel_rfl) rfl ?_
                            refine runs_skip ?_
                            refine runs_inBlock ?_
                            refine runs_inLoop ?_
                            exact ihm3 _ hlt3 _ _ (lp3 ++ lq3) (done3 ++ [r3]) (some (.int .i64 r3.Id, Report.av r3)) F hperm23 (c_keep hC (cc_of hb1 hb2 hb3 hb4 hb5 hb6) hb7 hb8 hnd.1 (done_sub hperm3) (ne_done hnd.1 hperm3 hmid3)) (hS.sel [0, 1, 2, 3, 4, 5, 6] [4, 5, 94] (by kernel_rfl)) rfl
                        · skip
                          refine drw [(2, .dec true)] [4, 5, 94, 15, 16, 169] hG hS (env := [(4, .box 0 0), (5, .box 4 0), (94, .itr 6), (15, .box 7 0), (16, .box 8 0), (169, .bool true)]) (own := [.box none 147 [.nmp, .nmp, .nmp], .gone, .gone, .map (F.map k1) (F.map v1), .box none 147 [.fm (K.map idk) (K.map Report.av), .fm ((goneL K).map k1) ((goneL K).map v1), .mp 3], .iter (left.map idk) (left.map Report.av) cur, .iter ((lp3 ++ lq3).map idk) ((lp3 ++ lq3).map Report.av) (some (.int .i64 r3.Id, Report.av r3)), .box none 73 [.int .i64 r3.Id, .int .i64 r3.Source, .int .i64 r3.Account, .int .i64 r3.Made, .int .i64 r3.About, .int .u8 (U8.i r3.Kind), .int .i64 r3.Cents, .int .i64 r3.Of], .box none 73 [.int .i64 (((getR K r3.Of).getD zeroR).Id), .int .i64 (((getR K r3.Of).getD zeroR).Source), .int .i64 (((getR K r3.Of).getD zeroR).Account), .int .i64 (((getR K r3.Of).getD zeroR).Made), .int .i64 (((getR K r3.Of).getD zeroR).About), .int .u8 (U8.i ((getR K r3.Of).getD zeroR).Kind), .int .i64 (((getR K r3.Of).getD zeroR).Cents), .int .i64 (((getR K r3.Of).getD zeroR).Of)], .box none 73 [.int .i64 (((getR K ((getM F (((getR K r3.Of).getD zeroR).Id)).getD 0)).getD zeroR).Id), .int .i64 (((getR K ((getM F (((getR K r3.Of).getD zeroR).Id)).getD 0)).getD zeroR).Source), .int .i64 (((getR K ((getM F (((getR K r3.Of).getD zeroR).Id)).getD 0)).getD zeroR).Account), .int .i64 (((getR K ((getM F (((getR K r3.Of).getD zeroR).Id)).getD 0)).getD zeroR).Made), .int .i64 (((getR K ((getM F (((getR K r3.Of).getD zeroR).Id)).getD 0)).getD zeroR).About), .int .u8 (U8.i ((getR K ((getM F (((getR K r3.Of).getD zeroR).Id)).getD 0)).getD zeroR).Kind), .int .i64 (((getR K ((getM F (((getR K r3.Of).getD zeroR).Id)).getD 0)).getD zeroR).Cents), .int .i64 (((getR K ((getM F (((getR K r3.Of).getD zeroR).Id)).getD 0)).getD zeroR).Of)]]) (obs := [(!(getM F (((getR K r3.Of).getD zeroR).Id)).isSome) = true]) (by kernel_rfl) (by kernel_rfl) (by rw [hb7]; rfl) fun ac wd hS => ?_
                          refine cond_yes hS (c := true) (by kernel_rfl) rfl ?_
                          refine reg [(6, .put ((putM F (((getR K r3.Of).getD zeroR).Id) r3.Id).map k1) ((putM F (((getR K r3.Of).getD zeroR).Id) r3.Id).map v1))] [4, 5, 94] hG hS (env := [(4, .box 0 0), (5, .box 4 0), (94, .itr 6)]) (own := [.box none 147 [.nmp, .nmp, .nmp], .gone, .gone, .map ((putM F (((getR K r3.Of).getD zeroR).Id) r3.Id).map k1) ((putM F (((getR K r3.Of).getD zeroR).Id) r3.Id).map v1), .box none 147 [.fm (K.map idk) (K.map Report.av), .fm ((goneL K).map k1) ((goneL K).map v1), .mp 3], .iter (left.map idk) (left.map Report.av) cur, .iter ((lp3 ++ lq3).map idk) ((lp3 ++ lq3).map Report.av) (some (.int .i64 r3.Id, Report.av r3)), .box none 73 [.int .i64 r3.Id, .int .i64 r3.Source, .int .i64 r3.Account, .int .i64 r3.Made, .int .i64 r3.About, .int .u8 (U8.i r3.Kind), .int .i64 r3.Cents, .int .i64 r3.Of], .box none 73 [.int .i64 (((getR K r3.Of).getD zeroR).Id), .int .i64 (((getR K r3.Of).getD zeroR).Source), .int .i64 (((getR K r3.Of).getD zeroR).Account), .int .i64 (((getR K r3.Of).getD zeroR).Made), .int .i64 (((getR K r3.Of).getD zeroR).About), .int .u8 (U8.i ((getR K r3.Of).getD zeroR).Kind), .int .i64 (((getR K r3.Of).getD zeroR).Cents), .int .i64 (((getR K r3.Of).getD zeroR).Of)], .box none 73 [.int .i64 (((getR K ((getM F (((getR K r3.Of).getD zeroR).Id)).getD 0)).getD zeroR).Id), .int .i64 (((getR K ((getM F (((getR K r3.Of).getD zeroR).Id)).getD 0)).getD zeroR).Source), .int .i64 (((getR K ((getM F (((getR K r3.Of).getD zeroR).Id)).getD 0)).getD zeroR).Account), .int .i64 (((getR K ((getM F (((getR K r3.Of).getD zeroR).Id)).getD 0)).getD zeroR).Made), .int .i64 (((getR K ((getM F (((getR K r3.Of).getD zeroR).Id)).getD 0)).getD zeroR).About), .int .u8 (U8.i ((getR K ((getM F (((getR K r3.Of).getD zeroR).Id)).getD 0)).getD zeroR).Kind), .int .i64 (((getR K ((getM F (((getR K r3.Of).getD zeroR).Id)).getD 0)).getD zeroR).Cents), .int .i64 (((getR K ((getM F (((getR K r3.Of).getD zeroR).Id)).getD 0)).getD zeroR).Of)]]) (obs := [PutOK Tryz.prog 3 (F.map k1) (F.map v1) (.int .i64 (((getR K r3.Of).getD zeroR).Id)) (.int .i64 r3.Id) ((putM F (((getR K r3.Of).getD zeroR).Id) r3.Id).map k1) ((putM F (((getR K r3.Of).getD zeroR).Id) r3.Id).map v1)]) (by kernel_rfl) ((put_M hC.nd _ _)) fun ac wd hS => ?_
                          refine runs_inBlock ?_
                          refine runs_inLoop ?_
                          exact ihm3 _ hlt3 _ _ (lp3 ++ lq3) (done3 ++ [r3]) (some (.int .i64 r3.Id, Report.av r3)) (putM F (((getR K r3.Of).getD zeroR).Id) r3.Id) hperm23 (c_put1 hC (cc_of hb1 hb2 hb3 hb4 hb5 hb6) hb7 (ne_done hnd.1 hperm3 hmid3)) (hS.sel [0, 1, 2, 3, 4, 5, 6] [4, 5, 94] (by kernel_rfl)) rfl
                  · skip
                    refine drw [(3, .dec false), (7, .dec false), (9, .av (.bool (factB ((getR K r3.Of).getD zeroR)))), (12, .dec false), (15, .av (.int .i64 (mostI (U8.i ((getR K r3.Of).getD zeroR).Kind)))), (20, .av (.bool (inB 0 (mostI (U8.i ((getR K r3.Of).getD zeroR).Kind)) [r3.Cents]))), (23, .dec true)] [4, 5, 94, 15, 16, 140] hG hS (env := [(4, .box 0 0), (5, .box 4 0), (94, .itr 6), (15, .box 7 0), (16, .box 8 0), (140, .bool true)]) (own := [.box none 147 [.nmp, .nmp, .nmp], .gone, .gone, .map (F.map k1) (F.map v1), .box none 147 [.fm (K.map idk) (K.map Report.av), .fm ((goneL K).map k1) ((goneL K).map v1), .mp 3], .iter (left.map idk) (left.map Report.av) cur, .iter ((lp3 ++ lq3).map idk) ((lp3 ++ lq3).map Report.av) (some (.int .i64 r3.Id, Report.av r3)), .box none 73 [.int .i64 r3.Id, .int .i64 r3.Source, .int .i64 r3.Account, .int .i64 r3.Made, .int .i64 r3.About, .int .u8 (U8.i r3.Kind), .int .i64 r3.Cents, .int .i64 r3.Of], .box none 73 [.int .i64 (((getR K r3.Of).getD zeroR).Id), .int .i64 (((getR K r3.Of).getD zeroR).Source), .int .i64 (((getR K r3.Of).getD zeroR).Account), .int .i64 (((getR K r3.Of).getD zeroR).Made), .int .i64 (((getR K r3.Of).getD zeroR).About), .int .u8 (U8.i ((getR K r3.Of).getD zeroR).Kind), .int .i64 (((getR K r3.Of).getD zeroR).Cents), .int .i64 (((getR K r3.Of).getD zeroR).Of)]]) (obs := [((U8.i r3.Kind) != 8) = false, (!aimsB K r3) = false, CallA Tryz.prog GT 106 [Report.av ((getR K r3.Of).getD zeroR)] (.bool (factB ((getR K r3.Of).getD zeroR))), (!factB ((getR K r3.Of).getD zeroR)) = false, 0 ≤ (U8.i ((getR K r3.Of).getD zeroR).Kind : Int) ∧ (U8.i ((getR K r3.Of).getD zeroR).Kind : Int) < 10 ∧ ((([.int .i64 0, .int .i64 0, .int .i64 1000000000000, .int .i64 1000000000000, .int .i64 1000000000000, .int .i64 10000, .int .i64 1000000000000, .int .i64 0, .int .i64 1000000000000, .int .i64 0] : List AV)).drop (0 + (U8.i ((getR K r3.Of).getD zeroR).Kind : Int).toNat * 1)).take 1 = AV.cells (.int .i64 (mostI (U8.i ((getR K r3.Of).getD zeroR).Kind))), CallA Tryz.prog GT 77 [.int .i64 0, .int .i64 (mostI (U8.i ((getR K r3.Of).getD zeroR).Kind)), .sl [.int .i64 r3.Cents]] (.bool (inB 0 (mostI (U8.i ((getR K r3.Of).getD zeroR).Kind)) [r3.Cents])), (!inB 0 (mostI (U8.i ((getR K r3.Of).getD zeroR).Kind)) [r3.Cents]) = true]) (by kernel_rfl) (by kernel_rfl) (⟨hb1, by rw [hb2]; rfl, (fact_ok _), by rw [hb3]; rfl, (⟨U8.nn _, by have h9 : decide (_ ≤ _) = true := hb3; simp only [decide_eq_true_eq] at h9; omega, most_at (U8.nn _) (by have h9 : decide (_ ≤ _) = true := hb3; simp only [decide_eq_true_eq] at h9; omega)⟩), (in_ok77 _ _ [r3.Cents] (by simp)), by rw [hb4]; rfl⟩) fun ac wd hS => ?_
                    refine cond_yes hS (c := true) (by kernel_rfl) rfl ?_
                    refine runs_exit (by rfl) ?_
                    refine runs_inLoop ?_
                    exact ihm3 _ hlt3 _ _ (lp3 ++ lq3) (done3 ++ [r3]) (some (.int .i64 r3.Id, Report.av r3)) F hperm23 (c_skip4 hC hb4) (hS.sel [0, 1, 2, 3, 4, 5, 6] [4, 5, 94] (by kernel_rfl)) rfl
                · skip
                  refine drw [(3, .dec false), (7, .dec false), (9, .av (.bool (factB ((getR K r3.Of).getD zeroR)))), (12, .dec true)] [4, 5, 94, 15, 16, 140] hG hS (env := [(4, .box 0 0), (5, .box 4 0), (94, .itr 6), (15, .box 7 0), (16, .box 8 0), (140, .bool true)]) (own := [.box none 147 [.nmp, .nmp, .nmp], .gone, .gone, .map (F.map k1) (F.map v1), .box none 147 [.fm (K.map idk) (K.map Report.av), .fm ((goneL K).map k1) ((goneL K).map v1), .mp 3], .iter (left.map idk) (left.map Report.av) cur, .iter ((lp3 ++ lq3).map idk) ((lp3 ++ lq3).map Report.av) (some (.int .i64 r3.Id, Report.av r3)), .box none 73 [.int .i64 r3.Id, .int .i64 r3.Source, .int .i64 r3.Account, .int .i64 r3.Made, .int .i64 r3.About, .int .u8 (U8.i r3.Kind), .int .i64 r3.Cents, .int .i64 r3.Of], .box none 73 [.int .i64 (((getR K r3.Of).getD zeroR).Id), .int .i64 (((getR K r3.Of).getD zeroR).Source), .int .i64 (((getR K r3.Of).getD zeroR).Account), .int .i64 (((getR K r3.Of).getD zeroR).Made), .int .i64 (((getR K r3.Of).getD zeroR).About), .int .u8 (U8.i ((getR K r3.Of).getD zeroR).Kind), .int .i64 (((getR K r3.Of).getD zeroR).Cents), .int .i64 (((getR K r3.Of).getD zeroR).Of)]]) (obs := [((U8.i r3.Kind) != 8) = false, (!aimsB K r3) = false, CallA Tryz.prog GT 106 [Report.av ((getR K r3.Of).getD zeroR)] (.bool (factB ((getR K r3.Of).getD zeroR))), (!factB ((getR K r3.Of).getD zeroR)) = true]) (by kernel_rfl) (by kernel_rfl) (⟨hb1, by rw [hb2]; rfl, (fact_ok _), by rw [hb3]; rfl⟩) fun ac wd hS => ?_
                  refine cond_yes hS (c := true) (by kernel_rfl) rfl ?_
                  refine runs_exit (by rfl) ?_
                  refine runs_inLoop ?_
                  exact ihm3 _ hlt3 _ _ (lp3 ++ lq3) (done3 ++ [r3]) (some (.int .i64 r3.Id, Report.av r3)) F hperm23 (c_skip3 hC hb3) (hS.sel [0, 1, 2, 3, 4, 5, 6] [4, 5, 94] (by kernel_rfl)) rfl
              · skip
                refine drw [(3, .dec false), (7, .dec true)] [4, 5, 94, 15, 16, 140] hG hS (env := [(4, .box 0 0), (5, .box 4 0), (94, .itr 6), (15, .box 7 0), (16, .box 8 0), (140, .bool true)]) (own := [.box none 147 [.nmp, .nmp, .nmp], .gone, .gone, .map (F.map k1) (F.map v1), .box none 147 [.fm (K.map idk) (K.map Report.av), .fm ((goneL K).map k1) ((goneL K).map v1), .mp 3], .iter (left.map idk) (left.map Report.av) cur, .iter ((lp3 ++ lq3).map idk) ((lp3 ++ lq3).map Report.av) (some (.int .i64 r3.Id, Report.av r3)), .box none 73 [.int .i64 r3.Id, .int .i64 r3.Source, .int .i64 r3.Account, .int .i64 r3.Made, .int .i64 r3.About, .int .u8 (U8.i r3.Kind), .int .i64 r3.Cents, .int .i64 r3.Of], .box none 73 [.int .i64 (((getR K r3.Of).getD zeroR).Id), .int .i64 (((getR K r3.Of).getD zeroR).Source), .int .i64 (((getR K r3.Of).getD zeroR).Account), .int .i64 (((getR K r3.Of).getD zeroR).Made), .int .i64 (((getR K r3.Of).getD zeroR).About), .int .u8 (U8.i ((getR K r3.Of).getD zeroR).Kind), .int .i64 (((getR K r3.Of).getD zeroR).Cents), .int .i64 (((getR K r3.Of).getD zeroR).Of)]]) (obs := [((U8.i r3.Kind) != 8) = false, (!aimsB K r3) = true]) (by kernel_rfl) (by kernel_rfl) (⟨hb1, by rw [hb2]; rfl⟩) fun ac wd hS => ?_
                refine cond_yes hS (c := true) (by kernel_rfl) rfl ?_
                refine runs_exit (by rfl) ?_
                refine runs_inLoop ?_
                exact ihm3 _ hlt3 _ _ (lp3 ++ lq3) (done3 ++ [r3]) (some (.int .i64 r3.Id, Report.av r3)) F hperm23 (c_skip2 hC hb2) (hS.sel [0, 1, 2, 3, 4, 5, 6] [4, 5, 94] (by kernel_rfl)) rfl
      · intro lp lq r hmid ac wd hS
        have hperm2 := perm_mid hperm hmid
        have hrK : r ∈ K := mem_left hperm hmid
        have hlt : (lp ++ lq).length < mm := by rw [← hmm, hmid]; simp
        refine regT [] [4, 5, 46, 48] hG hS (env := [(4, .box 0 0), (5, .box 4 0), (46, .itr 5), (48, .bool true)]) (own := [.box none 147 [.nmp, .nmp, .nmp], .gone, .map (G.map k1) (G.map v1), .map [] [], .box none 147 [.fm (K.map idk) (K.map Report.av), .mp 2, .mp 3], .iter ((lp ++ lq).map idk) ((lp ++ lq).map Report.av) (some (.int .i64 r.Id, Report.av r))]) (obs := []) (by kernel_rfl) (by rfl) (trivial) fun ac wd hS => ?_
        refine runs_seq ?_
        refine cond_yes hS (c := true) (by kernel_rfl) rfl ?_
        refine runs_skip ?_
        refine runs_block ?_
        refine runs_seq ?_
        refine reg [] [4, 5, 46, 9] hG hS (env := [(4, .box 0 0), (5, .box 4 0), (46, .itr 5), (9, .box 6 0)]) (own := [.box none 147 [.nmp, .nmp, .nmp], .gone, .map (G.map k1) (G.map v1), .map [] [], .box none 147 [.fm (K.map idk) (K.map Report.av), .mp 2, .mp 3], .iter ((lp ++ lq).map idk) ((lp ++ lq).map Report.av) (some (.int .i64 r.Id, Report.av r)), .box none 73 [.int .i64 r.Id, .int .i64 r.Source, .int .i64 r.Account, .int .i64 r.Made, .int .i64 r.About, .int .u8 (U8.i r.Kind), .int .i64 r.Cents, .int .i64 r.Of]]) (obs := []) (by kernel_rfl) (trivial) fun ac wd hS => ?_
        refine runs_seq ?_
        refine reg [(3, .av (.tup [Report.av ((getR K r.Of).getD zeroR), .bool (aimsB K r)]))] [4, 5, 46, 9, 10, 11] hG hS (env := [(4, .box 0 0), (5, .box 4 0), (46, .itr 5), (9, .box 6 0), (10, .box 7 0), (11, .bool (aimsB K r))]) (own := [.box none 147 [.nmp, .nmp, .nmp], .gone, .map (G.map k1) (G.map v1), .map [] [], .box none 147 [.fm (K.map idk) (K.map Report.av), .mp 2, .mp 3], .iter ((lp ++ lq).map idk) ((lp ++ lq).map Report.av) (some (.int .i64 r.Id, Report.av r)), .box none 73 [.int .i64 r.Id, .int .i64 r.Source, .int .i64 r.Account, .int .i64 r.Made, .int .i64 r.About, .int .u8 (U8.i r.Kind), .int .i64 r.Cents, .int .i64 r.Of], .box none 73 [.int .i64 (((getR K r.Of).getD zeroR).Id), .int .i64 (((getR K r.Of).getD zeroR).Source), .int .i64 (((getR K r.Of).getD zeroR).Account), .int .i64 (((getR K r.Of).getD zeroR).Made), .int .i64 (((getR K r.Of).getD zeroR).About), .int .u8 (U8.i ((getR K r.Of).getD zeroR).Kind), .int .i64 (((getR K r.Of).getD zeroR).Cents), .int .i64 (((getR K r.Of).getD zeroR).Of)]]) (obs := [CallA Tryz.prog GT 105 [.agg [.fm (K.map idk) (K.map Report.av)], Report.av r] (.tup [Report.av ((getR K r.Of).getD zeroR), .bool (aimsB K r)])]) (by kernel_rfl) ((aim_ok _ _ hnd.1)) fun ac wd hS => ?_
        refine runs_seq ?_
        rcases Bool.eq_false_or_eq_true (((U8.i r.Kind) == 9)) with hb9 | hb9
        · skip
          rcases Bool.eq_false_or_eq_true (aimsB K r) with hb10 | hb10
          · skip
            rcases Bool.eq_false_or_eq_true (((U8.i ((getR K r.Of).getD zeroR).Kind) != 9)) with hb11 | hb11
            · skip
              refine reg [(3, .dec true), (6, .dec true), (10, .dec true)] [4, 5, 46, 9, 10, 68] hG hS (env := [(4, .box 0 0), (5, .box 4 0), (46, .itr 5), (9, .box 6 0), (10, .box 7 0), (68, .bool true)]) (own := [.box none 147 [.nmp, .nmp, .nmp], .gone, .map (G.map k1) (G.map v1), .map [] [], .box none 147 [.fm (K.map idk) (K.map Report.av), .mp 2, .mp 3], .iter ((lp ++ lq).map idk) ((lp ++ lq).map Report.av) (some (.int .i64 r.Id, Report.av r)), .box none 73 [.int .i64 r.Id, .int .i64 r.Source, .int .i64 r.Account, .int .i64 r.Made, .int .i64 r.About, .int .u8 (U8.i r.Kind), .int .i64 r.Cents, .int .i64 r.Of], .box none 73 [.int .i64 (((getR K r.Of).getD zeroR).Id), .int .i64 (((getR K r.Of).getD zeroR).Source), .int .i64 (((getR K r.Of).getD zeroR).Account), .int .i64 (((getR K r.Of).getD zeroR).Made), .int .i64 (((getR K r.Of).getD zeroR).About), .int .u8 (U8.i ((getR K r.Of).getD zeroR).Kind), .int .i64 (((getR K r.Of).getD zeroR).Cents), .int .i64 (((getR K r.Of).getD zeroR).Of)]]) (obs := [((U8.i r.Kind) == 9) = true, aimsB K r = true, ((U8.i ((getR K r.Of).getD zeroR).Kind) != 9) = true]) (by kernel_rfl) (⟨hb9, hb10, hb11⟩) fun ac wd hS => ?_
              refine cond_yes hS (c := true) (by kernel_rfl) rfl ?_
              refine runs_seq ?_
              refine reg [(4, .av (.tup [.int .i64 ((getM G (((getR K r.Of).getD zeroR).Id)).getD 0), .bool ((getM G (((getR K r.Of).getD zeroR).Id)).isSome)]))] [4, 5, 46, 9, 10, 12, 13] hG hS (env := [(4, .box 0 0), (5, .box 4 0), (46, .itr 5), (9, .box 6 0), (10, .box 7 0), (12, .int .i64 ((getM G (((getR K r.Of).getD zeroR).Id)).getD 0)), (13, .bool ((getM G (((getR K r.Of).getD zeroR).Id)).isSome))]) (own := [.box none 147 [.nmp, .nmp, .nmp], .gone, .map (G.map k1) (G.map v1), .map [] [], .box none 147 [.fm (K.map idk) (K.map Report.av), .mp 2, .mp 3], .iter ((lp ++ lq).map idk) ((lp ++ lq).map Report.av) (some (.int .i64 r.Id, Report.av r)), .box none 73 [.int .i64 r.Id, .int .i64 r.Source, .int .i64 r.Account, .int .i64 r.Made, .int .i64 r.About, .int .u8 (U8.i r.Kind), .int .i64 r.Cents, .int .i64 r.Of], .box none 73 [.int .i64 (((getR K r.Of).getD zeroR).Id), .int .i64 (((getR K r.Of).getD zeroR).Source), .int .i64 (((getR K r.Of).getD zeroR).Account), .int .i64 (((getR K r.Of).getD zeroR).Made), .int .i64 (((getR K r.Of).getD zeroR).About), .int .u8 (U8.i ((getR K r.Of).getD zeroR).Kind), .int .i64 (((getR K r.Of).getD zeroR).Cents), .int .i64 (((getR K r.Of).getD zeroR).Of)]]) (obs := [LookOK Tryz.prog 3 (G.map k1) (G.map v1) (.int .i64 (((getR K r.Of).getD zeroR).Id)) (.int .i64 ((getM G (((getR K r.Of).getD zeroR).Id)).getD 0)) (.int .i64 0) (getM G (((getR K r.Of).getD zeroR).Id)).isSome]) (by kernel_rfl) ((look_M hW.nd _)) fun ac wd hS => ?_
              refine runs_seq ?_
              rcases Bool.eq_false_or_eq_true ((getM G (((getR K r.Of).getD zeroR).Id)).isSome) with hb12 | hb12
              · skip
                rcases Bool.eq_false_or_eq_true (decide (r.Id < ((getM G (((getR K r.Of).getD zeroR).Id)).getD 0))) with hb13 | hb13
                · skip
                  refine reg [(2, .dec false), (7, .dec true)] [4, 5, 46, 9, 10, 84] hG hS (env := [(4, .box 0 0), (5, .box 4 0), (46, .itr 5), (9, .box 6 0), (10, .box 7 0), (84, .bool true)]) (own := [.box none 147 [.nmp, .nmp, .nmp], .gone, .map (G.map k1) (G.map v1), .map [] [], .box none 147 [.fm (K.map idk) (K.map Report.av), .mp 2, .mp 3], .iter ((lp ++ lq).map idk) ((lp ++ lq).map Report.av) (some (.int .i64 r.Id, Report.av r)), .box none 73 [.int .i64 r.Id, .int .i64 r.Source, .int .i64 r.Account, .int .i64 r.Made, .int .i64 r.About, .int .u8 (U8.i r.Kind), .int .i64 r.Cents, .int .i64 r.Of], .box none 73 [.int .i64 (((getR K r.Of).getD zeroR).Id), .int .i64 (((getR K r.Of).getD zeroR).Source), .int .i64 (((getR K r.Of).getD zeroR).Account), .int .i64 (((getR K r.Of).getD zeroR).Made), .int .i64 (((getR K r.Of).getD zeroR).About), .int .u8 (U8.i ((getR K r.Of).getD zeroR).Kind), .int .i64 (((getR K r.Of).getD zeroR).Cents), .int .i64 (((getR K r.Of).getD zeroR).Of)]]) (obs := [(!(getM G (((getR K r.Of).getD zeroR).Id)).isSome) = false, decide (r.Id < ((getM G (((getR K r.Of).getD zeroR).Id)).getD 0)) = true]) (by kernel_rfl) (⟨by rw [hb12]; rfl, hb13⟩) fun ac wd hS => ?_
                  refine cond_yes hS (c := true) (by kernel_rfl) rfl ?_
                  refine reg [(6, .put ((putM G (((getR K r.Of).getD zeroR).Id) r.Id).map k1) ((putM G (((getR K r.Of).getD zeroR).Id) r.Id).map v1))] [4, 5, 46] hG hS (env := [(4, .box 0 0), (5, .box 4 0), (46, .itr 5)]) (own := [.box none 147 [.nmp, .nmp, .nmp], .gone, .map ((putM G (((getR K r.Of).getD zeroR).Id) r.Id).map k1) ((putM G (((getR K r.Of).getD zeroR).Id) r.Id).map v1), .map [] [], .box none 147 [.fm (K.map idk) (K.map Report.av), .mp 2, .mp 3], .iter ((lp ++ lq).map idk) ((lp ++ lq).map Report.av) (some (.int .i64 r.Id, Report.av r)), .box none 73 [.int .i64 r.Id, .int .i64 r.Source, .int .i64 r.Account, .int .i64 r.Made, .int .i64 r.About, .int .u8 (U8.i r.Kind), .int .i64 r.Cents, .int .i64 r.Of], .box none 73 [.int .i64 (((getR K r.Of).getD zeroR).Id), .int .i64 (((getR K r.Of).getD zeroR).Source), .int .i64 (((getR K r.Of).getD zeroR).Account), .int .i64 (((getR K r.Of).getD zeroR).Made), .int .i64 (((getR K r.Of).getD zeroR).About), .int .u8 (U8.i ((getR K r.Of).getD zeroR).Kind), .int .i64 (((getR K r.Of).getD zeroR).Cents), .int .i64 (((getR K r.Of).getD zeroR).Of)]]) (obs := [PutOK Tryz.prog 3 (G.map k1) (G.map v1) (.int .i64 (((getR K r.Of).getD zeroR).Id)) (.int .i64 r.Id) ((putM G (((getR K r.Of).getD zeroR).Id) r.Id).map k1) ((putM G (((getR K r.Of).getD zeroR).Id) r.Id).map v1)]) (by kernel_rfl) ((put_M hW.nd _ _)) fun ac wd hS => ?_
                  refine runs_inBlock ?_
                  refine runs_inLoop ?_
                  exact ihm _ hlt _ _ (lp ++ lq) (done ++ [r]) (some (.int .i64 r.Id, Report.av r)) (putM G (((getR K r.Of).getD zeroR).Id) r.Id) hperm2 (wd_put2 hW hb9 hb10 hb11 hb13) (hS.sel [0, 1, 2, 3, 4, 5] [4, 5, 46] (by kernel_rfl)) rfl
                · skip
                  refine reg [(2, .dec false), (7, .dec false)] [4, 5, 46, 9, 10, 84] hG hS (env := [(4, .box 0 0), (5, .box 4 0), (46, .itr 5), (9, .box 6 0), (10, .box 7 0), (84, .bool false)]) (own := [.box none 147 [.nmp, .nmp, .nmp], .gone, .map (G.map k1) (G.map v1), .map [] [], .box none 147 [.fm (K.map idk) (K.map Report.av), .mp 2, .mp 3], .iter ((lp ++ lq).map idk) ((lp ++ lq).map Report.av) (some (.int .i64 r.Id, Report.av r)), .box none 73 [.int .i64 r.Id, .int .i64 r.Source, .int .i64 r.Account, .int .i64 r.Made, .int .i64 r.About, .int .u8 (U8.i r.Kind), .int .i64 r.Cents, .int .i64 r.Of], .box none 73 [.int .i64 (((getR K r.Of).getD zeroR).Id), .int .i64 (((getR K r.Of).getD zeroR).Source), .int .i64 (((getR K r.Of).getD zeroR).Account), .int .i64 (((getR K r.Of).getD zeroR).Made), .int .i64 (((getR K r.Of).getD zeroR).About), .int .u8 (U8.i ((getR K r.Of).getD zeroR).Kind), .int .i64 (((getR K r.Of).getD zeroR).Cents), .int .i64 (((getR K r.Of).getD zeroR).Of)]]) (obs := [(!(getM G (((getR K r.Of).getD zeroR).Id)).isSome) = false, decide (r.Id < ((getM G (((getR K r.Of).getD zeroR).Id)).getD 0)) = false]) (by kernel_rfl) (⟨by rw [hb12]; rfl, hb13⟩) fun ac wd hS => ?_
                  refine cond_no hS (c := false) (by kernel_rfl) rfl ?_
                  refine runs_skip ?_
                  refine runs_inBlock ?_
                  refine runs_inLoop ?_
                  exact ihm _ hlt _ _ (lp ++ lq) (done ++ [r]) (some (.int .i64 r.Id, Report.av r)) G hperm2 (wd_keep hW hb9 hb10 hb11 hb12 hb13 (ne_done hnd.1 hperm hmid)) (hS.sel [0, 1, 2, 3, 4, 5] [4, 5, 46] (by kernel_rfl)) rfl
              · skip
                refine reg [(2, .dec true)] [4, 5, 46, 9, 10, 84] hG hS (env := [(4, .box 0 0), (5, .box 4 0), (46, .itr 5), (9, .box 6 0), (10, .box 7 0), (84, .bool true)]) (own := [.box none 147 [.nmp, .nmp, .nmp], .gone, .map (G.map k1) (G.map v1), .map [] [], .box none 147 [.fm (K.map idk) (K.map Report.av), .mp 2, .mp 3], .iter ((lp ++ lq).map idk) ((lp ++ lq).map Report.av) (some (.int .i64 r.Id, Report.av r)), .box none 73 [.int .i64 r.Id, .int .i64 r.Source, .int .i64 r.Account, .int .i64 r.Made, .int .i64 r.About, .int .u8 (U8.i r.Kind), .int .i64 r.Cents, .int .i64 r.Of], .box none 73 [.int .i64 (((getR K r.Of).getD zeroR).Id), .int .i64 (((getR K r.Of).getD zeroR).Source), .int .i64 (((getR K r.Of).getD zeroR).Account), .int .i64 (((getR K r.Of).getD zeroR).Made), .int .i64 (((getR K r.Of).getD zeroR).About), .int .u8 (U8.i ((getR K r.Of).getD zeroR).Kind), .int .i64 (((getR K r.Of).getD zeroR).Cents), .int .i64 (((getR K r.Of).getD zeroR).Of)]]) (obs := [(!(getM G (((getR K r.Of).getD zeroR).Id)).isSome) = true]) (by kernel_rfl) (by rw [hb12]; rfl) fun ac wd hS => ?_
                refine cond_yes hS (c := true) (by kernel_rfl) rfl ?_
                refine reg [(6, .put ((putM G (((getR K r.Of).getD zeroR).Id) r.Id).map k1) ((putM G (((getR K r.Of).getD zeroR).Id) r.Id).map v1))] [4, 5, 46] hG hS (env := [(4, .box 0 0), (5, .box 4 0), (46, .itr 5)]) (own := [.box none 147 [.nmp, .nmp, .nmp], .gone, .map ((putM G (((getR K r.Of).getD zeroR).Id) r.Id).map k1) ((putM G (((getR K r.Of).getD zeroR).Id) r.Id).map v1), .map [] [], .box none 147 [.fm (K.map idk) (K.map Report.av), .mp 2, .mp 3], .iter ((lp ++ lq).map idk) ((lp ++ lq).map Report.av) (some (.int .i64 r.Id, Report.av r)), .box none 73 [.int .i64 r.Id, .int .i64 r.Source, .int .i64 r.Account, .int .i64 r.Made, .int .i64 r.About, .int .u8 (U8.i r.Kind), .int .i64 r.Cents, .int .i64 r.Of], .box none 73 [.int .i64 (((getR K r.Of).getD zeroR).Id), .int .i64 (((getR K r.Of).getD zeroR).Source), .int .i64 (((getR K r.Of).getD zeroR).Account), .int .i64 (((getR K r.Of).getD zeroR).Made), .int .i64 (((getR K r.Of).getD zeroR).About), .int .u8 (U8.i ((getR K r.Of).getD zeroR).Kind), .int .i64 (((getR K r.Of).getD zeroR).Cents), .int .i64 (((getR K r.Of).getD zeroR).Of)]]) (obs := [PutOK Tryz.prog 3 (G.map k1) (G.map v1) (.int .i64 (((getR K r.Of).getD zeroR).Id)) (.int .i64 r.Id) ((putM G (((getR K r.Of).getD zeroR).Id) r.Id).map k1) ((putM G (((getR K r.Of).getD zeroR).Id) r.Id).map v1)]) (by kernel_rfl) ((put_M hW.nd _ _)) fun ac wd hS => ?_
                refine runs_inBlock ?_
                refine runs_inLoop ?_
                exact ihm _ hlt _ _ (lp ++ lq) (done ++ [r]) (some (.int .i64 r.Id, Report.av r)) (putM G (((getR K r.Of).getD zeroR).Id) r.Id) hperm2 (wd_put1 hW hb9 hb10 hb11 hb12) (hS.sel [0, 1, 2, 3, 4, 5] [4, 5, 46] (by kernel_rfl)) rfl
            · skip
              refine reg [(3, .dec true), (6, .dec true), (10, .dec false)] [4, 5, 46, 9, 10, 68] hG hS (env := [(4, .box 0 0), (5, .box 4 0), (46, .itr 5), (9, .box 6 0), (10, .box 7 0), (68, .bool false)]) (own := [.box none 147 [.nmp, .nmp, .nmp], .gone, .map (G.map k1) (G.map v1), .map [] [], .box none 147 [.fm (K.map idk) (K.map Report.av), .mp 2, .mp 3], .iter ((lp ++ lq).map idk) ((lp ++ lq).map Report.av) (some (.int .i64 r.Id, Report.av r)), .box none 73 [.int .i64 r.Id, .int .i64 r.Source, .int .i64 r.Account, .int .i64 r.Made, .int .i64 r.About, .int .u8 (U8.i r.Kind), .int .i64 r.Cents, .int .i64 r.Of], .box none 73 [.int .i64 (((getR K r.Of).getD zeroR).Id), .int .i64 (((getR K r.Of).getD zeroR).Source), .int .i64 (((getR K r.Of).getD zeroR).Account), .int .i64 (((getR K r.Of).getD zeroR).Made), .int .i64 (((getR K r.Of).getD zeroR).About), .int .u8 (U8.i ((getR K r.Of).getD zeroR).Kind), .int .i64 (((getR K r.Of).getD zeroR).Cents), .int .i64 (((getR K r.Of).getD zeroR).Of)]]) (obs := [((U8.i r.Kind) == 9) = true, aimsB K r = true, ((U8.i ((getR K r.Of).getD zeroR).Kind) != 9) = false]) (by kernel_rfl) (⟨hb9, hb10, hb11⟩) fun ac wd hS => ?_
              refine cond_no hS (c := false) (by kernel_rfl) rfl ?_
              refine runs_skip ?_
              refine runs_inBlock ?_
              refine runs_inLoop ?_
              exact ihm _ hlt _ _ (lp ++ lq) (done ++ [r]) (some (.int .i64 r.Id, Report.av r)) G hperm2 (wd_skip3 hW hb11) (hS.sel [0, 1, 2, 3, 4, 5] [4, 5, 46] (by kernel_rfl)) rfl
          · skip
            refine reg [(3, .dec true), (6, .dec false)] [4, 5, 46, 9, 10, 68] hG hS (env := [(4, .box 0 0), (5, .box 4 0), (46, .itr 5), (9, .box 6 0), (10, .box 7 0), (68, .bool false)]) (own := [.box none 147 [.nmp, .nmp, .nmp], .gone, .map (G.map k1) (G.map v1), .map [] [], .box none 147 [.fm (K.map idk) (K.map Report.av), .mp 2, .mp 3], .iter ((lp ++ lq).map idk) ((lp ++ lq).map Report.av) (some (.int .i64 r.Id, Report.av r)), .box none 73 [.int .i64 r.Id, .int .i64 r.Source, .int .i64 r.Account, .int .i64 r.Made, .int .i64 r.About, .int .u8 (U8.i r.Kind), .int .i64 r.Cents, .int .i64 r.Of], .box none 73 [.int .i64 (((getR K r.Of).getD zeroR).Id), .int .i64 (((getR K r.Of).getD zeroR).Source), .int .i64 (((getR K r.Of).getD zeroR).Account), .int .i64 (((getR K r.Of).getD zeroR).Made), .int .i64 (((getR K r.Of).getD zeroR).About), .int .u8 (U8.i ((getR K r.Of).getD zeroR).Kind), .int .i64 (((getR K r.Of).getD zeroR).Cents), .int .i64 (((getR K r.Of).getD zeroR).Of)]]) (obs := [((U8.i r.Kind) == 9) = true, aimsB K r = false]) (by kernel_rfl) (⟨hb9, hb10⟩) fun ac wd hS => ?_
            refine cond_no hS (c := false) (by kernel_rfl) rfl ?_
            refine runs_skip ?_
            refine runs_inBlock ?_
            refine runs_inLoop ?_
            exact ihm _ hlt _ _ (lp ++ lq) (done ++ [r]) (some (.int .i64 r.Id, Report.av r)) G hperm2 (wd_skip2 hW hb10) (hS.sel [0, 1, 2, 3, 4, 5] [4, 5, 46] (by kernel_rfl)) rfl
        · skip
          refine reg [(3, .dec false)] [4, 5, 46, 9, 10, 68] hG hS (env := [(4, .box 0 0), (5, .box 4 0), (46, .itr 5), (9, .box 6 0), (10, .box 7 0), (68, .bool false)]) (own := [.box none 147 [.nmp, .nmp, .nmp], .gone, .map (G.map k1) (G.map v1), .map [] [], .box none 147 [.fm (K.map idk) (K.map Report.av), .mp 2, .mp 3], .iter ((lp ++ lq).map idk) ((lp ++ lq).map Report.av) (some (.int .i64 r.Id, Report.av r)), .box none 73 [.int .i64 r.Id, .int .i64 r.Source, .int .i64 r.Account, .int .i64 r.Made, .int .i64 r.About, .int .u8 (U8.i r.Kind), .int .i64 r.Cents, .int .i64 r.Of], .box none 73 [.int .i64 (((getR K r.Of).getD zeroR).Id), .int .i64 (((getR K r.Of).getD zeroR).Source), .int .i64 (((getR K r.Of).getD zeroR).Account), .int .i64 (((getR K r.Of).getD zeroR).Made), .int .i64 (((getR K r.Of).getD zeroR).About), .int .u8 (U8.i ((getR K r.Of).getD zeroR).Kind), .int .i64 (((getR K r.Of).getD zeroR).Cents), .int .i64 (((getR K r.Of).getD zeroR).Of)]]) (obs := [((U8.i r.Kind) == 9) = false]) (by kernel_rfl) (hb9) fun ac wd hS => ?_
          refine cond_no hS (c := false) (by kernel_rfl) rfl ?_
          refine runs_skip ?_
          refine runs_inBlock ?_
          refine runs_inLoop ?_
          exact ihm _ hlt _ _ (lp ++ lq) (done ++ [r]) (some (.int .i64 r.Id, Report.av r)) G hperm2 (wd_skip1 hW hb9) (hS.sel [0, 1, 2, 3, 4, 5] [4, 5, 46] (by kernel_rfl)) rfl
  | cons x rest ihx =>
    refine runs_seq ?_
    refine reg [(0, .dec true)] [1, 4, 5, 26, 27, 28, 29] hG hS (env := [(1, .int .i64 known), (4, .box 0 0), (5, .box 4 0), (26, .sl (l.map Report.av)), (27, .int .i64 ((l.length : Nat) : Int)), (28, .int .i64 ((pre.length : Nat) : Int)), (29, .bool true)]) (own := [.box none 147 [.nmp, .nmp, .nmp], .map (K.map idk) (K.map Report.av), .map [] [], .map [] [], .box none 147 [.mp 1, .mp 2, .mp 3]]) (obs := [decide (((pre.length : Nat) : Int) < ((l.length : Nat) : Int)) = true]) (by kernel_rfl) ((lt_yes hl)) fun ac wd hS => ?_
    refine runs_seq ?_
    refine cond_yes hS (c := true) (by kernel_rfl) rfl ?_
    refine runs_skip ?_
    refine runs_seq ?_
    refine runs_block ?_
    refine runs_seq ?_
    refine reg [(0, .av (Report.av x))] [1, 4, 5, 26, 27, 28, 7] hG hS (env := [(1, .int .i64 known), (4, .box 0 0), (5, .box 4 0), (26, .sl (l.map Report.av)), (27, .int .i64 ((l.length : Nat) : Int)), (28, .int .i64 ((pre.length : Nat) : Int)), (7, .box 5 0)]) (own := [.box none 147 [.nmp, .nmp, .nmp], .map (K.map idk) (K.map Report.av), .map [] [], .map [] [], .box none 147 [.mp 1, .mp 2, .mp 3], .box none 73 [.int .i64 x.Id, .int .i64 x.Source, .int .i64 x.Account, .int .i64 x.Made, .int .i64 x.About, .int .u8 (U8.i x.Kind), .int .i64 x.Cents, .int .i64 x.Of]]) (obs := [0 ≤ (((pre.length : Nat) : Int) : Int) ∧ (l.map Report.av)[(((pre.length : Nat) : Int) : Int).toNat]? = some (Report.av x)]) (by kernel_rfl) ((idx_ok hl)) fun ac wd hS => ?_
    refine runs_seq ?_
    rcases Bool.eq_false_or_eq_true (decide (x.Made ≤ known)) with hb14 | hb14
    · skip
      refine reg [(3, .dec true)] [1, 4, 5, 26, 27, 28, 7, 35] hG hS (env := [(1, .int .i64 known), (4, .box 0 0), (5, .box 4 0), (26, .sl (l.map Report.av)), (27, .int .i64 ((l.length : Nat) : Int)), (28, .int .i64 ((pre.length : Nat) : Int)), (7, .box 5 0), (35, .bool true)]) (own := [.box none 147 [.nmp, .nmp, .nmp], .map (K.map idk) (K.map Report.av), .map [] [], .map [] [], .box none 147 [.mp 1, .mp 2, .mp 3], .box none 73 [.int .i64 x.Id, .int .i64 x.Source, .int .i64 x.Account, .int .i64 x.Made, .int .i64 x.About, .int .u8 (U8.i x.Kind), .int .i64 x.Cents, .int .i64 x.Of]]) (obs := [decide (x.Made ≤ known) = true]) (by kernel_rfl) (hb14) fun ac wd hS => ?_
      refine cond_yes hS (c := true) (by kernel_rfl) rfl ?_
      refine reg [(6, .put ((knownStep known K x).map idk) ((knownStep known K x).map Report.av))] [1, 4, 5, 26, 27, 28] hG hS (env := [(1, .int .i64 known), (4, .box 0 0), (5, .box 4 0), (26, .sl (l.map Report.av)), (27, .int .i64 ((l.length : Nat) : Int)), (28, .int .i64 ((pre.length : Nat) : Int))]) (own := [.box none 147 [.nmp, .nmp, .nmp], .map ((knownStep known K x).map idk) ((knownStep known K x).map Report.av), .map [] [], .map [] [], .box none 147 [.mp 1, .mp 2, .mp 3], .box none 73 [.int .i64 x.Id, .int .i64 x.Source, .int .i64 x.Account, .int .i64 x.Made, .int .i64 x.About, .int .u8 (U8.i x.Kind), .int .i64 x.Cents, .int .i64 x.Of]]) (obs := [PutOK Tryz.prog 3 (K.map idk) (K.map Report.av) (.int .i64 x.Id) (Report.av x) ((knownStep known K x).map idk) ((knownStep known K x).map Report.av)]) (by kernel_rfl) ((put_known hnd.1 (fun q hq => hf.eq (by rw [hl]; simp [hnd.2 q (getR_mem hq).1]) (mem_mid hl) (getR_mem hq).2) hb14)) fun ac wd hS => ?_
      refine runs_inBlock ?_
      refine reg [(0, .is (((pre ++ [x]).length : Nat) : Int))] [1, 4, 5, 26, 27, 28] hG hS (env := [(1, .int .i64 known), (4, .box 0 0), (5, .box 4 0), (26, .sl (l.map Report.av)), (27, .int .i64 ((l.length : Nat) : Int)), (28, .int .i64 (((pre ++ [x]).length : Nat) : Int))]) (own := [.box none 147 [.nmp, .nmp, .nmp], .map ((knownStep known K x).map idk) ((knownStep known K x).map Report.av), .map [] [], .map [] [], .box none 147 [.mp 1, .mp 2, .mp 3], .box none 73 [.int .i64 x.Id, .int .i64 x.Source, .int .i64 x.Account, .int .i64 x.Made, .int .i64 x.About, .int .u8 (U8.i x.Kind), .int .i64 x.Cents, .int .i64 x.Of]]) (obs := [IntKind.i64.wrap (((pre.length : Nat) : Int) + 1) = (((pre ++ [x]).length : Nat) : Int)]) (by kernel_rfl) ((next_len hl hn)) fun ac wd hS => ?_
      refine runs_inLoop ?_
      exact ihx _ _ (pre ++ [x]) (knownStep known K x) (next_eq hl) (by rw [hK]; rfl) (known_step hnd.1 hnd.2) (hS.sel [0, 1, 2, 3, 4] [1, 4, 5, 26, 27, 28] (by kernel_rfl))
    · skip
      refine reg [(3, .dec false)] [1, 4, 5, 26, 27, 28, 7, 35] hG hS (env := [(1, .int .i64 known), (4, .box 0 0), (5, .box 4 0), (26, .sl (l.map Report.av)), (27, .int .i64 ((l.length : Nat) : Int)), (28, .int .i64 ((pre.length : Nat) : Int)), (7, .box 5 0), (35, .bool false)]) (own := [.box none 147 [.nmp, .nmp, .nmp], .map (K.map idk) (K.map Report.av), .map [] [], .map [] [], .box none 147 [.mp 1, .mp 2, .mp 3], .box none 73 [.int .i64 x.Id, .int .i64 x.Source, .int .i64 x.Account, .int .i64 x.Made, .int .i64 x.About, .int .u8 (U8.i x.Kind), .int .i64 x.Cents, .int .i64 x.Of]]) (obs := [decide (x.Made ≤ known) = false]) (by kernel_rfl) (hb14) fun ac wd hS => ?_
      refine cond_no hS (c := false) (by kernel_rfl) rfl ?_
      refine runs_skip ?_
      refine runs_inBlock ?_
      refine reg [(0, .is (((pre ++ [x]).length : Nat) : Int))] [1, 4, 5, 26, 27, 28] hG hS (env := [(1, .int .i64 known), (4, .box 0 0), (5, .box 4 0), (26, .sl (l.map Report.av)), (27, .int .i64 ((l.length : Nat) : Int)), (28, .int .i64 (((pre ++ [x]).length : Nat) : Int))]) (own := [.box none 147 [.nmp, .nmp, .nmp], .map (K.map idk) (K.map Report.av), .map [] [], .map [] [], .box none 147 [.mp 1, .mp 2, .mp 3], .box none 73 [.int .i64 x.Id, .int .i64 x.Source, .int .i64 x.Account, .int .i64 x.Made, .int .i64 x.About, .int .u8 (U8.i x.Kind), .int .i64 x.Cents, .int .i64 x.Of]]) (obs := [IntKind.i64.wrap (((pre.length : Nat) : Int) + 1) = (((pre ++ [x]).length : Nat) : Int)]) (by kernel_rfl) ((next_len hl hn)) fun ac wd hS => ?_
      refine runs_inLoop ?_
      exact ihx _ _ (pre ++ [x]) K (next_eq hl) (by rw [hK]; simp only [List.foldl_cons, knownStep, hb14, Bool.false_and, Bool.false_eq_true, if_false]) ⟨hnd.1, fun y hy => by simp [hnd.2 y hy]⟩ (hS.sel [0, 1, 2, 3, 4] [1, 4, 5, 26, 27, 28] (by kernel_rfl))
end Go.Fw

set_option maxRecDepth 20000
namespace Go.Fw
open Go.Proofs

theorem insRR_perm (r : Report) : ∀ rp suf : List Report, (insRR r rp suf).Perm (r :: (rp ++ suf))
  | [], suf => by simp [insRR]
  | y :: rp, suf => by
    unfold insRR
    split
    · refine (insRR_perm r rp (y :: suf)).trans (List.Perm.cons r ?_)
      exact List.perm_middle
    · refine List.perm_middle.trans (List.Perm.cons r ?_)
      refine List.Perm.append_right suf ?_
      exact List.reverse_perm (y :: rp)
theorem insRep_perm (l : List Report) (r : Report) : (insRep l r).Perm (r :: l) := by
  unfold insRep
  refine (insRR_perm r l.reverse []).trans (List.Perm.cons r ?_)
  simpa using List.reverse_perm l
def leR (a b : Report) : Prop := beforeB b a = false
theorem leR_iff {a b : Report} : leR a b ↔ a.About < b.About ∨ (a.About = b.About ∧ a.Id ≤ b.Id) := by
  unfold leR beforeB
  simp only [Bool.or_eq_false_iff, Bool.and_eq_false_iff, decide_eq_false_iff_not, beq_eq_false_iff_ne]
  omega
theorem leR_trans {a b c : Report} (h : leR a b) (h' : leR b c) : leR a c := by rw [leR_iff] at *; omega
theorem insRR_sorted (r : Report) : ∀ rp suf : List Report, (rp.reverse ++ suf).Pairwise leR → (∀ x ∈ suf, leR r x) → (insRR r rp suf).Pairwise leR
  | [], suf, h, hs => by
    simp only [insRR, List.pairwise_cons]
    exact ⟨hs, by simpa using h⟩
  | y :: rp, suf, h, hs => by
    unfold insRR
    have h' : (rp.reverse ++ (y :: suf)).Pairwise leR := by simpa using h
    cases hb : beforeB r y
    · simp only [Bool.false_eq_true, if_false]
      have hyr : leR y r := hb
      rw [List.pairwise_append] at h ⊢
      refine ⟨h.1, List.pairwise_cons.2 ⟨hs, h.2.1⟩, fun a ha b hb' => ?_⟩
      have har : leR a r := by
        rw [List.mem_reverse] at ha
        rcases List.mem_cons.1 ha with rfl | ha
        · exact hyr
        · have h1 := (List.pairwise_append.1 h').2.2 a (by simpa using ha) y (by simp)
          exact leR_trans h1 hyr
      rcases List.mem_cons.1 hb' with rfl | hb'
      · exact har
      · exact h.2.2 a ha b hb'
    · simp only [if_true]
      refine insRR_sorted r rp (y :: suf) h' fun x hx => ?_
      rcases List.mem_cons.1 hx with rfl | hx
      · unfold leR beforeB
        unfold beforeB at hb
        simp only [Bool.or_eq_true, Bool.and_eq_true, decide_eq_true_eq, beq_iff_eq, Bool.or_eq_false_iff, Bool.and_eq_false_iff, decide_eq_false_iff_not, beq_eq_false_iff_ne] at hb ⊢
        omega
      · exact hs x hx
theorem insRep_sorted {l : List Report} (h : l.Pairwise leR) (r : Report) : (insRep l r).Pairwise leR := insRR_sorted r l.reverse [] (by simpa using h) (by simp)
theorem stand_sorted (l : List Report) : ∀ (m out : List Report), out.Pairwise leR → (m.foldl (standStep l) out).Pairwise leR
  | [], out, h => h
  | x :: m, out, h => by
    simp only [List.foldl_cons]
    refine stand_sorted l m _ ?_
    unfold standStep
    split
    · exact h
    · exact insRep_sorted h _
def standsB (K : List Report) (r : Report) : Bool := factB r && !decide (withdrawnI K r.Id r ≥ 0)
theorem stand_perm (l : List Report) : ∀ (m out : List Report), (m.foldl (standStep l) out).Perm ((m.filter (standsB l)).map (fixR l) ++ out)
  | [], out => by simp
  | x :: m, out => by
    simp only [List.foldl_cons]
    refine (stand_perm l m _).trans ?_
    have hk : (decide (U8.i x.Kind > 7) || decide (withdrawnI l x.Id x ≥ 0)) = !standsB l x := by
      unfold standsB factB
      have : decide (U8.i x.Kind > 7) = !decide (U8.i x.Kind ≤ 7) := by
        rw [Bool.eq_iff_iff]; simp
      rw [this]
      cases decide (U8.i x.Kind ≤ 7) <;> cases decide (withdrawnI l x.Id x ≥ 0) <;> rfl
    unfold standStep
    rw [hk]
    cases hs : standsB l x
    · simp [List.filter_cons, hs]
    · simp only [Bool.not_true, Bool.false_eq_true, if_false, List.filter_cons, hs, if_true, List.map_cons, List.cons_append]
      refine (List.Perm.append_left _ (insRep_perm out (fixR l x))).trans ?_
      exact List.perm_middle
theorem standing_perm (K : List Report) : (standingL K).Perm ((K.filter (standsB K)).map (fixR K)) := by
  have := stand_perm K K []
  simpa [standingL] using this
theorem standing_sorted (K : List Report) : (standingL K).Pairwise leR := stand_sorted K K [] List.Pairwise.nil
theorem fixR_id (K : List Report) (r : Report) : (fixR K r).Id = r.Id ∧ (fixR K r).Kind = r.Kind ∧ (fixR K r).Source = r.Source ∧ (fixR K r).Account = r.Account ∧ (fixR K r).Made = r.Made ∧ (fixR K r).Of = r.Of := by
  unfold fixR
  split <;> simp [fixWith]
theorem standing_mem {K : List Report} {x : Report} : x ∈ standingL K ↔ ∃ r ∈ K, standsB K r = true ∧ x = fixR K r := by
  rw [(standing_perm K).mem_iff]
  simp only [List.mem_map, List.mem_filter]
  constructor
  · rintro ⟨r, ⟨h1, h2⟩, rfl⟩; exact ⟨r, h1, h2, rfl⟩
  · rintro ⟨r, h1, h2, rfl⟩; exact ⟨r, ⟨h1, h2⟩, rfl⟩
theorem standing_nodup {K : List Report} (hK : NodupR K) : NodupR (standingL K) := by
  unfold NodupR
  rw [((standing_perm K).map Report.Id).nodup_iff, List.map_map]
  have : (K.filter (standsB K)).map (Report.Id ∘ fixR K) = (K.filter (standsB K)).map Report.Id := List.map_congr_left fun r _ => (fixR_id K r).1
  rw [this]
  exact (List.filter_sublist.map Report.Id).nodup hK
def fixP (K : List Report) (r : Report) : Report := if (getM (fixedL K) r.Id).isSome then fixWith r ((getR K ((getM (fixedL K) r.Id).getD 0)).getD zeroR) else r
theorem fixP_id (K : List Report) (r : Report) : (fixP K r).Id = r.Id ∧ (fixP K r).Kind = r.Kind := by
  unfold fixP; split <;> simp [fixWith]
theorem fixP_eq {K : List Report} (hK : Good K) {r : Report} (hr : r ∈ K) (hs : standsB K r = true) : fixP K r = fixR K r := by
  unfold fixP fixR
  rw [fixed_get hK hr, if_pos (show (factB r && !decide (withdrawnI K r.Id r ≥ 0)) = true from hs)]
  cases h : correctedO K r.Id r with
  | none => rfl
  | some c =>
    have hc := corr_mem K r.Id r K none (fun _ h => h) (fun _ h => by cases h) c h
    simp [hK.nd.get hc]
theorem gone_mem {K : List Report} (hK : Good K) {r : Report} (hr : r ∈ K) : (∃ p ∈ goneL K, p.1 = r.Id) ↔ withdrawnI K r.Id r ≥ 0 := by
  have h1 := gone_some hK (goneL_inv hK) hr
  have hnd := (goneL_inv hK).nd
  constructor
  · rintro ⟨p, hp, he⟩
    have := (getM_mem hnd p.1 p.2).2 hp
    rw [he] at this
    rw [this] at h1
    simpa using h1.symm
  · intro h
    rw [decide_eq_true h] at h1
    obtain ⟨v, hv⟩ := Option.isSome_iff_exists.1 h1
    exact ⟨_, (getM_mem hnd r.Id v).1 hv, rfl⟩
theorem left_perm {K done L D done2 : List Report} {dg : IM} (hK : Good K) (hdone : done.Perm K) (hL : L = (done.filter factB).map (fixP K)) (hg : dg.Perm (goneL K)) (hnd : NodupR D) (hD : ∀ x, x ∈ D ↔ x ∈ L ∧ ∀ p ∈ dg, x.Id ≠ p.1) (h2 : done2.Perm D) : (standingL K).Perm done2 := by
  refine List.Perm.trans ?_ h2.symm
  have nd : ∀ {M : List Report}, NodupR M → M.Nodup := fun {M} h => by
    unfold NodupR at h
    rw [List.nodup_iff_pairwise_ne] at h ⊢
    rw [List.pairwise_map] at h
    exact h.imp fun hne he => hne (by rw [he])
  refine (List.perm_ext_iff_of_nodup (nd (standing_nodup hK.nd)) (nd hnd)).2 fun x => ?_
  rw [standing_mem, hD, hL]
  simp only [List.mem_map, List.mem_filter]
  constructor
  · rintro ⟨r, hr, hs, rfl⟩
    have hs' := hs
    simp only [standsB, Bool.and_eq_true, Bool.not_eq_true', decide_eq_false_iff_not] at hs'
    refine ⟨⟨r, ⟨hdone.mem_iff.2 hr, hs'.1⟩, fixP_eq hK hr hs⟩, fun p hp he => hs'.2 ?_⟩
    rw [(fixR_id K r).1] at he
    exact (gone_mem hK hr).1 ⟨p, hg.mem_iff.1 hp, he.symm⟩
  · rintro ⟨⟨r, ⟨hr, hf⟩, rfl⟩, hall⟩
    have hrK := hdone.mem_iff.1 hr
    have hs : standsB K r = true := by
      simp only [standsB, Bool.and_eq_true, Bool.not_eq_true', decide_eq_false_iff_not]
      refine ⟨hf, fun h => ?_⟩
      obtain ⟨p, hp, he⟩ := (gone_mem hK hrK).2 h
      exact hall p (hg.mem_iff.2 hp) (by rw [(fixP_id K r).1, he])
    exact ⟨r, hrK, hs, fixP_eq hK hrK hs⟩
def numAt (x : AV) (k : Nat) : Int := match x.cells[k]? with
  | some (.int _ n) => n
  | _ => 0
def cfAI (x y : AV) : Int := orI [cmpI (numAt x 4) (numAt y 4), cmpI (numAt x 0) (numAt y 0)]
theorem cmp_AI {l : List Report} (h : NodupR l) : CmpOK cfAI (l.map Report.av) where
  irrefl x _ := by unfold cfAI; rw [or_lt]; omega
  trans x _ y _ z _ h1 h2 := by unfold cfAI at *; rw [or_lt] at *; omega
  ntrans x _ y _ z _ h1 h2 := by unfold cfAI at *; rw [or_lt] at *; omega
  anti x hx y hy h1 h2 := by
    obtain ⟨a, ha, rfl⟩ := List.mem_map.1 hx
    obtain ⟨b, hb, rfl⟩ := List.mem_map.1 hy
    unfold cfAI at h1 h2; rw [or_lt] at h1 h2
    have : numAt (Report.av a) 0 = numAt (Report.av b) 0 := by omega
    rw [h.eq ha hb this]
theorem sorted_AI {l : List Report} (h : l.Pairwise leR) : (l.map Report.av).Pairwise fun x y => ¬ cfAI y x < 0 := by
  rw [List.pairwise_map]
  refine h.imp fun {a b} hab => ?_
  rw [leR_iff] at hab
  unfold cfAI; rw [or_lt]
  show ¬ (b.About < a.About ∨ (b.About = a.About ∧ b.Id < a.Id))
  omega
end Go.Fw

set_option maxRecDepth 20000
namespace Go.Fw
open Go.Proofs

theorem about_ok (r : Report) : CallA Tryz.prog GT 110 [Report.av r] (.int .i64 r.About) := by
  refine callA_of Tryz.func110 rfl (by simp [Tryz.f110]) rfl fun B ac hB hBd hG hS => ?_
  refine runs_seq ?_
  refine reg [] [1] hG hS (env := [(1, .box 0 0)]) (own := [.box none 73 [.int .i64 r.Id, .int .i64 r.Source, .int .i64 r.Account, .int .i64 r.Made, .int .i64 r.About, .int .u8 (U8.i r.Kind), .int .i64 r.Cents, .int .i64 r.Of]]) (obs := []) (by kernel_rfl) (trivial) fun ac wd hS => ?_
  refine runs_seq ?_
  refine reg [] [2] hG hS (env := [(2, .int .i64 r.About)]) (own := [.box none 73 [.int .i64 r.Id, .int .i64 r.Source, .int .i64 r.Account, .int .i64 r.Made, .int .i64 r.About, .int .u8 (U8.i r.Kind), .int .i64 r.Cents, .int .i64 r.Of]]) (obs := []) (by kernel_rfl) (trivial) fun ac wd hS => ?_
  rw [show (.int .i64 r.About : AV) = .int .i64 r.About from by (first | (simp []; done) | (simp []; omega) | (congr 1; simp only []; grind))]
  exact retz Tryz.func110 rfl hB hBd hS (by kernel_rfl) rfl
theorem id_ok (r : Report) : CallA Tryz.prog GT 111 [Report.av r] (.int .i64 r.Id) := by
  refine callA_of Tryz.func111 rfl (by simp [Tryz.f111]) rfl fun B ac hB hBd hG hS => ?_
  refine runs_seq ?_
  refine reg [] [1] hG hS (env := [(1, .box 0 0)]) (own := [.box none 73 [.int .i64 r.Id, .int .i64 r.Source, .int .i64 r.Account, .int .i64 r.Made, .int .i64 r.About, .int .u8 (U8.i r.Kind), .int .i64 r.Cents, .int .i64 r.Of]]) (obs := []) (by kernel_rfl) (trivial) fun ac wd hS => ?_
  refine runs_seq ?_
  refine reg [] [2] hG hS (env := [(2, .int .i64 r.Id)]) (own := [.box none 73 [.int .i64 r.Id, .int .i64 r.Source, .int .i64 r.Account, .int .i64 r.Made, .int .i64 r.About, .int .u8 (U8.i r.Kind), .int .i64 r.Cents, .int .i64 r.Of]]) (obs := []) (by kernel_rfl) (trivial) fun ac wd hS => ?_
  rw [show (.int .i64 r.Id : AV) = .int .i64 r.Id from by (first | (simp []; done) | (simp []; omega) | (congr 1; simp only []; grind))]
  exact retz Tryz.func111 rfl hB hBd hS (by kernel_rfl) rfl
theorem flatR {l : List Report} : ∀ x ∈ l.map Report.av, x.flatN = true := by
  intro x hx; obtain ⟨r, _, rfl⟩ := List.mem_map.1 hx; rfl
theorem lenR {l : List Report} : ∀ x ∈ l.map Report.av, x.vals.length = 8 := by
  intro x hx; obtain ⟨r, _, rfl⟩ := List.mem_map.1 hx; rfl
theorem cmp139_2 (p q : Report) : CallA Tryz.prog GT 139 [Report.av p, Report.av q, .fp [.sl [.fn (.func 110) [] [], .fn (.func 111) [] []]] 0] (.int .i64 (orI [cmpI p.About q.About, cmpI p.Id q.Id])) := by
  refine callA_of Tryz.func139 rfl (by simp [Tryz.f139]) rfl fun B ac hB hBd hG hS => ?_
  refine runs_seq ?_
  refine reg [] [2, 3, 4] hG hS (env := [(2, .fp [.sl [.fn (.func 110) [] [], .fn (.func 111) [] []]] 0), (3, .box 0 0), (4, .box 1 0)]) (own := [.box none 73 [.int .i64 p.Id, .int .i64 p.Source, .int .i64 p.Account, .int .i64 p.Made, .int .i64 p.About, .int .u8 (U8.i p.Kind), .int .i64 p.Cents, .int .i64 p.Of], .box none 73 [.int .i64 q.Id, .int .i64 q.Source, .int .i64 q.Account, .int .i64 q.Made, .int .i64 q.About, .int .u8 (U8.i q.Kind), .int .i64 q.Cents, .int .i64 q.Of]]) (obs := []) (by kernel_rfl) (trivial) fun ac wd hS => ?_
  refine runs_seq ?_
  refine runs_seq ?_
  refine reg [(1, .is 2)] [3, 4, 9, 10, 11] hG hS (env := [(3, .box 0 0), (4, .box 1 0), (9, .sl [.fn (.func 110) [] [], .fn (.func 111) [] []]), (10, .int .i64 2), (11, .int .i64 0)]) (own := [.box none 73 [.int .i64 p.Id, .int .i64 p.Source, .int .i64 p.Account, .int .i64 p.Made, .int .i64 p.About, .int .u8 (U8.i p.Kind), .int .i64 p.Cents, .int .i64 p.Of], .box none 73 [.int .i64 q.Id, .int .i64 q.Source, .int .i64 q.Account, .int .i64 q.Made, .int .i64 q.About, .int .u8 (U8.i q.Kind), .int .i64 q.Cents, .int .i64 q.Of]]) (obs := [(([.fn (.func 110) [] [], .fn (.func 111) [] []] : List AV).length : Int) = 2]) (by kernel_rfl) ((by rfl)) fun ac wd hS => ?_
  refine runs_block ?_
  refine runs_loop ?_
  refine runs_seq ?_
  refine reg [] [3, 4, 9, 10, 11, 12] hG hS (env := [(3, .box 0 0), (4, .box 1 0), (9, .sl [.fn (.func 110) [] [], .fn (.func 111) [] []]), (10, .int .i64 2), (11, .int .i64 0), (12, .bool true)]) (own := [.box none 73 [.int .i64 p.Id, .int .i64 p.Source, .int .i64 p.Account, .int .i64 p.Made, .int .i64 p.About, .int .u8 (U8.i p.Kind), .int .i64 p.Cents, .int .i64 p.Of], .box none 73 [.int .i64 q.Id, .int .i64 q.Source, .int .i64 q.Account, .int .i64 q.Made, .int .i64 q.About, .int .u8 (U8.i q.Kind), .int .i64 q.Cents, .int .i64 q.Of]]) (obs := []) (by kernel_rfl) (trivial) fun ac wd hS => ?_
  refine runs_seq ?_
  refine cond_yes hS (c := true) (by kernel_rfl) rfl ?_
  refine runs_skip ?_
  refine runs_seq ?_
  refine runs_block ?_
  refine runs_seq ?_
  refine reg [(0, .av (.fn (.func 110) [] []))] [3, 4, 9, 10, 11, 7] hG hS (env := [(3, .box 0 0), (4, .box 1 0), (9, .sl [.fn (.func 110) [] [], .fn (.func 111) [] []]), (10, .int .i64 2), (11, .int .i64 0), (7, .fn (.func 110) [] [])]) (own := [.box none 73 [.int .i64 p.Id, .int .i64 p.Source, .int .i64 p.Account, .int .i64 p.Made, .int .i64 p.About, .int .u8 (U8.i p.Kind), .int .i64 p.Cents, .int .i64 p.Of], .box none 73 [.int .i64 q.Id, .int .i64 q.Source, .int .i64 q.Account, .int .i64 q.Made, .int .i64 q.About, .int .u8 (U8.i q.Kind), .int .i64 q.Cents, .int .i64 q.Of]]) (obs := [0 ≤ (0 : Int) ∧ ([.fn (.func 110) [] [], .fn (.func 111) [] []] : List AV)[(0 : Int).toNat]? = some (.fn (.func 110) [] [])]) (by kernel_rfl) (⟨by omega, rfl⟩) fun ac wd hS => ?_
  refine runs_seq ?_
  refine drw [(2, .av (.int .i64 p.About)), (5, .av (.int .i64 q.About)), (6, .av (.int .i64 (cmpI p.About q.About)))] [3, 4, 9, 10, 11, 8] hG hS (env := [(3, .box 0 0), (4, .box 1 0), (9, .sl [.fn (.func 110) [] [], .fn (.func 111) [] []]), (10, .int .i64 2), (11, .int .i64 0), (8, .int .i64 (cmpI p.About q.About))]) (own := [.box none 73 [.int .i64 p.Id, .int .i64 p.Source, .int .i64 p.Account, .int .i64 p.Made, .int .i64 p.About, .int .u8 (U8.i p.Kind), .int .i64 p.Cents, .int .i64 p.Of], .box none 73 [.int .i64 q.Id, .int .i64 q.Source, .int .i64 q.Account, .int .i64 q.Made, .int .i64 q.About, .int .u8 (U8.i q.Kind), .int .i64 q.Cents, .int .i64 q.Of]]) (obs := [CallA Tryz.prog GT 110 [Report.av p] (.int .i64 p.About), CallA Tryz.prog GT 110 [Report.av q] (.int .i64 q.About), CallA Tryz.prog GT 60 [.int .i64 p.About, .int .i64 q.About] (.int .i64 (cmpI p.About q.About))]) (by kernel_rfl) (by kernel_rfl) (⟨(about_ok _), (about_ok _), (cmp_ok60 _ _)⟩) fun ac wd hS => ?_
  refine runs_seq ?_
  rcases Bool.eq_false_or_eq_true (((cmpI p.About q.About) != 0)) with hb1 | hb1
  · skip
    refine reg [(1, .dec true)] [3, 4, 9, 10, 11, 8, 23] hG hS (env := [(3, .box 0 0), (4, .box 1 0), (9, .sl [.fn (.func 110) [] [], .fn (.func 111) [] []]), (10, .int .i64 2), (11, .int .i64 0), (8, .int .i64 (cmpI p.About q.About)), (23, .bool true)]) (own := [.box none 73 [.int .i64 p.Id, .int .i64 p.Source, .int .i64 p.Account, .int .i64 p.Made, .int .i64 p.About, .int .u8 (U8.i p.Kind), .int .i64 p.Cents, .int .i64 p.Of], .box none 73 [.int .i64 q.Id, .int .i64 q.Source, .int .i64 q.Account, .int .i64 q.Made, .int .i64 q.About, .int .u8 (U8.i q.Kind), .int .i64 q.Cents, .int .i64 q.Of]]) (obs := [((cmpI p.About q.About) != 0) = true]) (by kernel_rfl) (hb1) fun ac wd hS => ?_
    refine cond_yes hS (c := true) (by kernel_rfl) rfl ?_
    refine runs_seq ?_
    refine reg [] [5] hG hS (env := [(5, .int .i64 (cmpI p.About q.About))]) (own := [.box none 73 [.int .i64 p.Id, .int .i64 p.Source, .int .i64 p.Account, .int .i64 p.Made, .int .i64 p.About, .int .u8 (U8.i p.Kind), .int .i64 p.Cents, .int .i64 p.Of], .box none 73 [.int .i64 q.Id, .int .i64 q.Source, .int .i64 q.Account, .int .i64 q.Made, .int .i64 q.About, .int .u8 (U8.i q.Kind), .int .i64 q.Cents, .int .i64 q.Of]]) (obs := []) (by kernel_rfl) (trivial) fun ac wd hS => ?_
    rw [show (.int .i64 (orI [cmpI p.About q.About, cmpI p.Id q.Id]) : AV) = .int .i64 (cmpI p.About q.About) from by (simp only [bne_iff_ne, ne_eq, bne_eq_false_iff_eq] at hb1; (congr 1; simp only [orI]; (repeat' split) <;> simp_all)) ]
    exact retz Tryz.func139 rfl hB hBd hS (by kernel_rfl) rfl
  · skip
    refine reg [(1, .dec false)] [3, 4, 9, 10, 11, 8, 23] hG hS (env := [(3, .box 0 0), (4, .box 1 0), (9, .sl [.fn (.func 110) [] [], .fn (.func 111) [] []]), (10, .int .i64 2), (11, .int .i64 0), (8, .int .i64 (cmpI p.About q.About)), (23, .bool false)]) (own := [.box none 73 [.int .i64 p.Id, .int .i64 p.Source, .int .i64 p.Account, .int .i64 p.Made, .int .i64 p.About, .int .u8 (U8.i p.Kind), .int .i64 p.Cents, .int .i64 p.Of], .box none 73 [.int .i64 q.Id, .int .i64 q.Source, .int .i64 q.Account, .int .i64 q.Made, .int .i64 q.About, .int .u8 (U8.i q.Kind), .int .i64 q.Cents, .int .i64 q.Of]]) (obs := [((cmpI p.About q.About) != 0) = false]) (by kernel_rfl) (hb1) fun ac wd hS => ?_
    refine cond_no hS (c := false) (by kernel_rfl) rfl ?_
    refine runs_skip ?_
    refine runs_inBlock ?_
    refine reg [(0, .is 1)] [3, 4, 9, 10, 11] hG hS (env := [(3, .box 0 0), (4, .box 1 0), (9, .sl [.fn (.func 110) [] [], .fn (.func 111) [] []]), (10, .int .i64 2), (11, .int .i64 1)]) (own := [.box none 73 [.int .i64 p.Id, .int .i64 p.Source, .int .i64 p.Account, .int .i64 p.Made, .int .i64 p.About, .int .u8 (U8.i p.Kind), .int .i64 p.Cents, .int .i64 p.Of], .box none 73 [.int .i64 q.Id, .int .i64 q.Source, .int .i64 q.Account, .int .i64 q.Made, .int .i64 q.About, .int .u8 (U8.i q.Kind), .int .i64 q.Cents, .int .i64 q.Of]]) (obs := [IntKind.i64.wrap (0 + 1) = 1]) (by kernel_rfl) ((by rfl)) fun ac wd hS => ?_
    refine runs_inLoop ?_
    refine runs_seq ?_
    refine reg [] [3, 4, 9, 10, 11, 12] hG hS (env := [(3, .box 0 0), (4, .box 1 0), (9, .sl [.fn (.func 110) [] [], .fn (.func 111) [] []]), (10, .int .i64 2), (11, .int .i64 1), (12, .bool true)]) (own := [.box none 73 [.int .i64 p.Id, .int .i64 p.Source, .int .i64 p.Account, .int .i64 p.Made, .int .i64 p.About, .int .u8 (U8.i p.Kind), .int .i64 p.Cents, .int .i64 p.Of], .box none 73 [.int .i64 q.Id, .int .i64 q.Source, .int .i64 q.Account, .int .i64 q.Made, .int .i64 q.About, .int .u8 (U8.i q.Kind), .int .i64 q.Cents, .int .i64 q.Of]]) (obs := []) (by kernel_rfl) (trivial) fun ac wd hS => ?_
    refine runs_seq ?_
    refine cond_yes hS (c := true) (by kernel_rfl) rfl ?_
    refine runs_skip ?_
    refine runs_seq ?_
    refine runs_block ?_
    refine runs_seq ?_
    refine reg [(0, .av (.fn (.func 111) [] []))] [3, 4, 9, 10, 11, 7] hG hS (env := [(3, .box 0 0), (4, .box 1 0), (9, .sl [.fn (.func 110) [] [], .fn (.func 111) [] []]), (10, .int .i64 2), (11, .int .i64 1), (7, .fn (.func 111) [] [])]) (own := [.box none 73 [.int .i64 p.Id, .int .i64 p.Source, .int .i64 p.Account, .int .i64 p.Made, .int .i64 p.About, .int .u8 (U8.i p.Kind), .int .i64 p.Cents, .int .i64 p.Of], .box none 73 [.int .i64 q.Id, .int .i64 q.Source, .int .i64 q.Account, .int .i64 q.Made, .int .i64 q.About, .int .u8 (U8.i q.Kind), .int .i64 q.Cents, .int .i64 q.Of]]) (obs := [0 ≤ (1 : Int) ∧ ([.fn (.func 110) [] [], .fn (.func 111) [] []] : List AV)[(1 : Int).toNat]? = some (.fn (.func 111) [] [])]) (by kernel_rfl) (⟨by omega, rfl⟩) fun ac wd hS => ?_
    refine runs_seq ?_
    refine drw [(2, .av (.int .i64 p.Id)), (5, .av (.int .i64 q.Id)), (6, .av (.int .i64 (cmpI p.Id q.Id)))] [3, 4, 9, 10, 11, 8] hG hS (env := [(3, .box 0 0), (4, .box 1 0), (9, .sl [.fn (.func 110) [] [], .fn (.func 111) [] []]), (10, .int .i64 2), (11, .int .i64 1), (8, .int .i64 (cmpI p.Id q.Id))]) (own := [.box none 73 [.int .i64 p.Id, .int .i64 p.Source, .int .i64 p.Account, .int .i64 p.Made, .int .i64 p.About, .int .u8 (U8.i p.Kind), .int .i64 p.Cents, .int .i64 p.Of], .box none 73 [.int .i64 q.Id, .int .i64 q.Source, .int .i64 q.Account, .int .i64 q.Made, .int .i64 q.About, .int .u8 (U8.i q.Kind), .int .i64 q.Cents, .int .i64 q.Of]]) (obs := [CallA Tryz.prog GT 111 [Report.av p] (.int .i64 p.Id), CallA Tryz.prog GT 111 [Report.av q] (.int .i64 q.Id), CallA Tryz.prog GT 60 [.int .i64 p.Id, .int .i64 q.Id] (.int .i64 (cmpI p.Id q.Id))]) (by kernel_rfl) (by kernel_rfl) (⟨(id_ok _), (id_ok _), (cmp_ok60 _ _)⟩) fun ac wd hS => ?_
    refine runs_seq ?_
    rcases Bool.eq_false_or_eq_true (((cmpI p.Id q.Id) != 0)) with hb2 | hb2
    · skip
      refine reg [(1, .dec true)] [3, 4, 9, 10, 11, 8, 23] hG hS (env := [(3, .box 0 0), (4, .box 1 0), (9, .sl [.fn (.func 110) [] [], .fn (.func 111) [] []]), (10, .int .i64 2), (11, .int .i64 1), (8, .int .i64 (cmpI p.Id q.Id)), (23, .bool true)]) (own := [.box none 73 [.int .i64 p.Id, .int .i64 p.Source, .int .i64 p.Account, .int .i64 p.Made, .int .i64 p.About, .int .u8 (U8.i p.Kind), .int .i64 p.Cents, .int .i64 p.Of], .box none 73 [.int .i64 q.Id, .int .i64 q.Source, .int .i64 q.Account, .int .i64 q.Made, .int .i64 q.About, .int .u8 (U8.i q.Kind), .int .i64 q.Cents, .int .i64 q.Of]]) (obs := [((cmpI p.Id q.Id) != 0) = true]) (by kernel_rfl) (hb2) fun ac wd hS => ?_
      refine cond_yes hS (c := true) (by kernel_rfl) rfl ?_
      refine runs_seq ?_
      refine reg [] [5] hG hS (env := [(5, .int .i64 (cmpI p.Id q.Id))]) (own := [.box none 73 [.int .i64 p.Id, .int .i64 p.Source, .int .i64 p.Account, .int .i64 p.Made, .int .i64 p.About, .int .u8 (U8.i p.Kind), .int .i64 p.Cents, .int .i64 p.Of], .box none 73 [.int .i64 q.Id, .int .i64 q.Source, .int .i64 q.Account, .int .i64 q.Made, .int .i64 q.About, .int .u8 (U8.i q.Kind), .int .i64 q.Cents, .int .i64 q.Of]]) (obs := []) (by kernel_rfl) (trivial) fun ac wd hS => ?_
      rw [show (.int .i64 (orI [cmpI p.About q.About, cmpI p.Id q.Id]) : AV) = .int .i64 (cmpI p.Id q.Id) from by (simp only [bne_iff_ne, ne_eq, bne_eq_false_iff_eq] at hb1; simp only [bne_iff_ne, ne_eq, bne_eq_false_iff_eq] at hb2; (congr 1; simp only [orI]; (repeat' split) <;> simp_all)) ]
      exact retz Tryz.func139 rfl hB hBd hS (by kernel_rfl) rfl
    · skip
      refine reg [(1, .dec false)] [3, 4, 9, 10, 11, 8, 23] hG hS (env := [(3, .box 0 0), (4, .box 1 0), (9, .sl [.fn (.func 110) [] [], .fn (.func 111) [] []]), (10, .int .i64 2), (11, .int .i64 1), (8, .int .i64 (cmpI p.Id q.Id)), (23, .bool false)]) (own := [.box none 73 [.int .i64 p.Id, .int .i64 p.Source, .int .i64 p.Account, .int .i64 p.Made, .int .i64 p.About, .int .u8 (U8.i p.Kind), .int .i64 p.Cents, .int .i64 p.Of], .box none 73 [.int .i64 q.Id, .int .i64 q.Source, .int .i64 q.Account, .int .i64 q.Made, .int .i64 q.About, .int .u8 (U8.i q.Kind), .int .i64 q.Cents, .int .i64 q.Of]]) (obs := [((cmpI p.Id q.Id) != 0) = false]) (by kernel_rfl) (hb2) fun ac wd hS => ?_
      refine cond_no hS (c := false) (by kernel_rfl) rfl ?_
      refine runs_skip ?_
      refine runs_inBlock ?_
      refine reg [(0, .is 2)] [3, 4, 9, 10, 11] hG hS (env := [(3, .box 0 0), (4, .box 1 0), (9, .sl [.fn (.func 110) [] [], .fn (.func 111) [] []]), (10, .int .i64 2), (11, .int .i64 2)]) (own := [.box none 73 [.int .i64 p.Id, .int .i64 p.Source, .int .i64 p.Account, .int .i64 p.Made, .int .i64 p.About, .int .u8 (U8.i p.Kind), .int .i64 p.Cents, .int .i64 p.Of], .box none 73 [.int .i64 q.Id, .int .i64 q.Source, .int .i64 q.Account, .int .i64 q.Made, .int .i64 q.About, .int .u8 (U8.i q.Kind), .int .i64 q.Cents, .int .i64 q.Of]]) (obs := [IntKind.i64.wrap (1 + 1) = 2]) (by kernel_rfl) ((by rfl)) fun ac wd hS => ?_
      refine runs_inLoop ?_
      refine runs_seq ?_
      refine reg [] [3, 4, 9, 10, 11, 12] hG hS (env := [(3, .box 0 0), (4, .box 1 0), (9, .sl [.fn (.func 110) [] [], .fn (.func 111) [] []]), (10, .int .i64 2), (11, .int .i64 2), (12, .bool false)]) (own := [.box none 73 [.int .i64 p.Id, .int .i64 p.Source, .int .i64 p.Account, .int .i64 p.Made, .int .i64 p.About, .int .u8 (U8.i p.Kind), .int .i64 p.Cents, .int .i64 p.Of], .box none 73 [.int .i64 q.Id, .int .i64 q.Source, .int .i64 q.Account, .int .i64 q.Made, .int .i64 q.About, .int .u8 (U8.i q.Kind), .int .i64 q.Cents, .int .i64 q.Of]]) (obs := []) (by kernel_rfl) (trivial) fun ac wd hS => ?_
      refine runs_seq ?_
      refine cond_no hS (c := false) (by kernel_rfl) rfl ?_
      refine runs_exit (by rfl) ?_
      refine runs_seq ?_
      refine reg [] [5] hG hS (env := [(5, .int .i64 0)]) (own := [.box none 73 [.int .i64 p.Id, .int .i64 p.Source, .int .i64 p.Account, .int .i64 p.Made, .int .i64 p.About, .int .u8 (U8.i p.Kind), .int .i64 p.Cents, .int .i64 p.Of], .box none 73 [.int .i64 q.Id, .int .i64 q.Source, .int .i64 q.Account, .int .i64 q.Made, .int .i64 q.About, .int .u8 (U8.i q.Kind), .int .i64 q.Cents, .int .i64 q.Of]]) (obs := []) (by kernel_rfl) (trivial) fun ac wd hS => ?_
      rw [show (.int .i64 (orI [cmpI p.About q.About, cmpI p.Id q.Id]) : AV) = .int .i64 0 from by (simp only [bne_iff_ne, ne_eq, bne_eq_false_iff_eq] at hb1; simp only [bne_iff_ne, ne_eq, bne_eq_false_iff_eq] at hb2; (congr 1; simp only [orI]; (repeat' split) <;> simp_all)) ]
      exact retz Tryz.func139 rfl hB hBd hS (by kernel_rfl) rfl
theorem ordered_2 (l m : List Report) (hn : l.length ≤ 60000) (hnd : NodupR l) (hp : m.Perm l) (hs : (m.map Report.av).Pairwise fun x y => ¬ cfAI y x < 0) : CallRow Tryz.prog GT 109 73 8 (l.map Report.av) [.sl [.fn (.func 110) [] [], .fn (.func 111) [] []]] (m.map Report.av) := by
  refine callRow_of Tryz.func109 rfl (by simp [Tryz.f109]) rfl fun B ac hBd hG hS => ?_
  refine runs_seq ?_
  refine reg [] [0, 3] hG hS (env := [(0, .osl 0), (3, .box 1 0)]) (own := [.row 73 8 (l.map Report.av), .box none 205 [.sl [.fn (.func 110) [] [], .fn (.func 111) [] []]]]) (obs := []) (by kernel_rfl) (trivial) fun ac wd hS => ?_
  refine runs_seq ?_
  refine reg [(2, .opn (.tup []) [.row 73 8 (m.map Report.av), .box none 205 [.sl [.fn (.func 110) [] [], .fn (.func 111) [] []]]])] [0] hG hS (env := [(0, .osl 0)]) (own := [.row 73 8 (m.map Report.av), .box none 205 [.sl [.fn (.func 110) [] [], .fn (.func 111) [] []]]]) (obs := [CallO Tryz.prog GT 138 [.osl 0, .fn (.func 139) [] [.box 1 0]] [.row 73 8 (l.map Report.av), .box none 205 [.sl [.fn (.func 110) [] [], .fn (.func 111) [] []]]] (.tup []) [.row 73 8 (m.map Report.av), .box none 205 [.sl [.fn (.func 110) [] [], .fn (.func 111) [] []]]]]) (by kernel_rfl) ((sort138 cfAI rfl flatR lenR (by simp; omega) rfl (cmp_AI hnd) (fun x hx y hy => by obtain ⟨p, _, rfl⟩ := List.mem_map.1 hx; obtain ⟨q, _, rfl⟩ := List.mem_map.1 hy; exact cmp139_2 p q) (cmp139_2 zeroR zeroR).1 (hp.map _) hs)) fun ac wd hS => ?_
  refine runs_seq ?_
  refine reg [] [4] hG hS (env := [(4, .osl 0)]) (own := [.row 73 8 (m.map Report.av), .box none 205 [.sl [.fn (.func 110) [] [], .fn (.func 111) [] []]]]) (obs := []) (by kernel_rfl) (trivial) fun ac wd hS => ?_
  skip
  exact ret_row Tryz.func109 rfl hBd hS (by kernel_rfl) (j := 0) rfl
end Go.Fw

