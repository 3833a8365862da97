/- A part of the following proof. The law TermLasts returns true at every input and leaves the input as it was. -/
import Derived.Test.YtmhglopmmpedfaaGreatDoorM2
set_option linter.unusedSimpArgs false
set_option linter.unusedVariables false
set_option linter.unnecessarySimpa false
set_option linter.all false
set_option maxRecDepth 20000
namespace Go.Fw
open Go.Proofs

theorem snoc_cases {α : Type} (l : List α) : l = [] ∨ ∃ pr y, l = pr ++ [y] := by
  rcases List.eq_nil_or_concat l with h | ⟨pr, y, h⟩
  · exact .inl h
  · exact .inr ⟨pr, y, by rw [h]; simp⟩
theorem idx_prev {α : Type} {av : α → AV} {l pre rest pr : List α} {x y : α} (h : l = pre ++ x :: rest) (hp : pre = pr ++ [y]) (hn : l.length ≤ 65536) :
    0 ≤ (IntKind.i64.wrap (((pre.length : Nat) : Int) - 1)) ∧ (l.map av)[(IntKind.i64.wrap (((pre.length : Nat) : Int) - 1)).toNat]? = some (av y) := by
  subst h hp
  simp at hn
  rw [wrap_i64 (by simp <;> omega) (by simp <;> omega)]
  simp <;> omega
theorem pos_no {α : Type} {pre : List α} (h : pre = []) : decide (((pre.length : Nat) : Int) > 0) = false := by subst h; simp
theorem pos_yes {α : Type} {pre pr : List α} {y : α} (h : pre = pr ++ [y]) : decide (((pre.length : Nat) : Int) > 0) = true := by subst h; simp <;> omega
def risingB {α : Type} (ok : α → Bool) (c : α → α → Int) : Option α → List α → Bool
  | _, [] => true
  | none, x :: l => ok x && risingB ok c (some x) l
  | some y, x :: l => ok x && !decide (c y x ≥ 0) && risingB ok c (some x) l
section
variable {α : Type} {ok : α → Bool} {c : α → α → Int} {pre rest pr : List α} {x y : α} {X : Bool}
theorem rise_nil (h : pre = []) (hr : X = risingB ok c pre.getLast? (x :: rest)) (h1 : ok x = true) : X = risingB ok c (pre ++ [x]).getLast? rest := by
  subst h; rw [hr]; simp [risingB, h1]
theorem rise_some (h : pre = pr ++ [y]) (hr : X = risingB ok c pre.getLast? (x :: rest)) (h1 : ok x = true) (h2 : decide (c y x ≥ 0) = false) : X = risingB ok c (pre ++ [x]).getLast? rest := by
  subst h; rw [hr]
  simp only [List.getLast?_append, List.getLast?_singleton, Option.some_or, risingB, h1, h2, Bool.not_false, Bool.true_and]
theorem rise_no1 (hr : X = risingB ok c pre.getLast? (x :: rest)) (h1 : ok x = false) : X = false := by
  rw [hr]; cases pre.getLast? <;> simp [risingB, h1]
theorem rise_no2 (h : pre = pr ++ [y]) (hr : X = risingB ok c pre.getLast? (x :: rest)) (h2 : decide (c y x ≥ 0) = true) : X = false := by
  subst h; rw [hr]
  simp only [List.getLast?_append, List.getLast?_singleton, Option.some_or, risingB, h2, Bool.not_true, Bool.and_false, Bool.false_and]
theorem rise_end (hr : X = risingB ok c pre.getLast? []) : X = true := by
  rw [hr]; cases pre.getLast? <;> rfl
end

theorem rising_ok54 (l : List Law) (hn : l.length ≤ 65536) : CallA Tryz.prog GT 54 [.sl (l.map Law.av), .fn (.func 55) [] [], .fn (.func 58) [] []] (.bool (risingB lawOK lawCmp none l)) := by
  refine callA_of Tryz.func54 rfl (by simp [Tryz.f54]) rfl fun B ac hB hBd hG hS => ?_
  refine runs_seq ?_
  refine reg [] [0, 1, 2] hG hS (env := [(0, .sl (l.map Law.av)), (1, .fn (.func 55) [] []), (2, .fn (.func 58) [] [])]) (own := []) (obs := []) (by kernel_rfl) (trivial) fun ac wd hS => ?_
  refine runs_seq ?_
  refine runs_seq ?_
  refine reg [(1, .is ((l.length : Nat) : Int))] [0, 1, 2, 9, 10, 11] hG hS (env := [(0, .sl (l.map Law.av)), (1, .fn (.func 55) [] []), (2, .fn (.func 58) [] []), (9, .sl (l.map Law.av)), (10, .int .i64 ((l.length : Nat) : Int)), (11, .int .i64 0)]) (own := []) (obs := [((l.map Law.av).length : Int) = ((l.length : Nat) : Int)]) (by kernel_rfl) (len_map) fun ac wd hS => ?_
  refine runs_block ?_
  refine runs_loop ?_
  have hinv : ∃ (pre rest : List Law), l = pre ++ rest ∧ (risingB lawOK lawCmp none l = risingB lawOK lawCmp pre.getLast? rest) ∧ Sat B ⟨Tryz.f54.ntmps, [(0, .sl (l.map Law.av)), (1, .fn (.func 55) [] []), (2, .fn (.func 58) [] []), (9, .sl (l.map Law.av)), (10, .int .i64 ((l.length : Nat) : Int)), (11, .int .i64 ((pre.length : Nat) : Int))], []⟩ ac wd := ⟨[], l, rfl, rfl, hS.sel [] [0, 1, 2, 9, 10, 11] (by kernel_rfl)⟩
  clear hS
  obtain ⟨pre, rest, hl, hr, hS⟩ := hinv
  induction rest generalizing pre  ac wd with
  | nil =>
    refine runs_seq ?_
    refine reg [(0, .dec false)] [0, 1, 2, 9, 10, 11, 12] hG hS (env := [(0, .sl (l.map Law.av)), (1, .fn (.func 55) [] []), (2, .fn (.func 58) [] []), (9, .sl (l.map Law.av)), (10, .int .i64 ((l.length : Nat) : Int)), (11, .int .i64 ((pre.length : Nat) : Int)), (12, .bool false)]) (own := []) (obs := [decide (((pre.length : Nat) : Int) < ((l.length : Nat) : Int)) = false]) (by kernel_rfl) ((lt_no hl)) fun ac wd hS => ?_
    refine runs_seq ?_
    refine cond_no hS (c := false) (by kernel_rfl) rfl ?_
    refine runs_exit (by rfl) ?_
    refine runs_seq ?_
    refine reg [] [6] hG hS (env := [(6, .bool true)]) (own := []) (obs := []) (by kernel_rfl) (trivial) fun ac wd hS => ?_
    rw [rise_end hr]
    exact retz Tryz.func54 rfl hB hBd hS (by kernel_rfl) rfl
  | cons x rest ihx =>
    rcases snoc_cases pre with hp | ⟨pr, y, hp⟩
    · skip
      refine runs_seq ?_
      refine reg [(0, .dec true)] [0, 1, 2, 9, 10, 11, 12] hG hS (env := [(0, .sl (l.map Law.av)), (1, .fn (.func 55) [] []), (2, .fn (.func 58) [] []), (9, .sl (l.map Law.av)), (10, .int .i64 ((l.length : Nat) : Int)), (11, .int .i64 ((pre.length : Nat) : Int)), (12, .bool true)]) (own := []) (obs := [decide (((pre.length : Nat) : Int) < ((l.length : Nat) : Int)) = true]) (by kernel_rfl) ((lt_yes hl)) fun ac wd hS => ?_
      refine runs_seq ?_
      refine cond_yes hS (c := true) (by kernel_rfl) rfl ?_
      refine runs_skip ?_
      refine runs_seq ?_
      refine runs_block ?_
      refine runs_seq ?_
      refine reg [(1, .av (Law.av x))] [0, 1, 2, 9, 10, 11, 8, 7] hG hS (env := [(0, .sl (l.map Law.av)), (1, .fn (.func 55) [] []), (2, .fn (.func 58) [] []), (9, .sl (l.map Law.av)), (10, .int .i64 ((l.length : Nat) : Int)), (11, .int .i64 ((pre.length : Nat) : Int)), (8, .box 0 0), (7, .int .i64 ((pre.length : Nat) : Int))]) (own := [.box none 66 [.int .i64 x.Land, .int .u8 (U8.i x.Kind), .int .u8 (U8.i x.Base), .int .i64 x.Keep]]) (obs := [0 ≤ (((pre.length : Nat) : Int) : Int) ∧ (l.map Law.av : List AV)[(((pre.length : Nat) : Int) : Int).toNat]? = some (Law.av x)]) (by kernel_rfl) ((idx_ok hl)) fun ac wd hS => ?_
      refine runs_seq ?_
      rcases Bool.eq_false_or_eq_true (lawOK x) with hb1 | hb1
      · skip
        refine drw [(2, .av (.bool (lawOK x))), (4, .dec false), (7, .dec false)] [0, 1, 2, 9, 10, 11, 34] hG hS (env := [(0, .sl (l.map Law.av)), (1, .fn (.func 55) [] []), (2, .fn (.func 58) [] []), (9, .sl (l.map Law.av)), (10, .int .i64 ((l.length : Nat) : Int)), (11, .int .i64 ((pre.length : Nat) : Int)), (34, .bool false)]) (own := [.box none 66 [.int .i64 x.Land, .int .u8 (U8.i x.Kind), .int .u8 (U8.i x.Base), .int .i64 x.Keep]]) (obs := [CallA Tryz.prog GT 55 [Law.av x] (.bool (lawOK x)), (!lawOK x) = false, decide (((pre.length : Nat) : Int) > 0) = false]) (by kernel_rfl) (by kernel_rfl) (⟨(lawOK_ok _), by rw [hb1]; rfl, (pos_no hp)⟩) fun ac wd hS => ?_
        refine cond_no hS (c := false) (by kernel_rfl) rfl ?_
        refine runs_skip ?_
        refine runs_inBlock ?_
        refine reg [(0, .is (((pre ++ [x]).length : Nat) : Int))] [0, 1, 2, 9, 10, 11] hG hS (env := [(0, .sl (l.map Law.av)), (1, .fn (.func 55) [] []), (2, .fn (.func 58) [] []), (9, .sl (l.map Law.av)), (10, .int .i64 ((l.length : Nat) : Int)), (11, .int .i64 (((pre ++ [x]).length : Nat) : Int))]) (own := [.box none 66 [.int .i64 x.Land, .int .u8 (U8.i x.Kind), .int .u8 (U8.i x.Base), .int .i64 x.Keep]]) (obs := [IntKind.i64.wrap (((pre.length : Nat) : Int) + 1) = (((pre ++ [x]).length : Nat) : Int)]) (by kernel_rfl) ((next_len hl hn)) fun ac wd hS => ?_
        refine runs_inLoop ?_
        exact ihx _ _ (pre ++ [x])  (next_eq hl) (rise_nil hp hr hb1) (hS.sel [] [0, 1, 2, 9, 10, 11] (by kernel_rfl))
      · skip
        refine drw [(2, .av (.bool (lawOK x))), (4, .dec true)] [0, 1, 2, 9, 10, 11, 34] hG hS (env := [(0, .sl (l.map Law.av)), (1, .fn (.func 55) [] []), (2, .fn (.func 58) [] []), (9, .sl (l.map Law.av)), (10, .int .i64 ((l.length : Nat) : Int)), (11, .int .i64 ((pre.length : Nat) : Int)), (34, .bool true)]) (own := [.box none 66 [.int .i64 x.Land, .int .u8 (U8.i x.Kind), .int .u8 (U8.i x.Base), .int .i64 x.Keep]]) (obs := [CallA Tryz.prog GT 55 [Law.av x] (.bool (lawOK x)), (!lawOK x) = true]) (by kernel_rfl) (by kernel_rfl) (⟨(lawOK_ok _), by rw [hb1]; rfl⟩) fun ac wd hS => ?_
        refine cond_yes hS (c := true) (by kernel_rfl) rfl ?_
        refine runs_seq ?_
        refine reg [] [6] hG hS (env := [(6, .bool false)]) (own := [.box none 66 [.int .i64 x.Land, .int .u8 (U8.i x.Kind), .int .u8 (U8.i x.Base), .int .i64 x.Keep]]) (obs := []) (by kernel_rfl) (trivial) fun ac wd hS => ?_
        rw [rise_no1 hr hb1]
        exact retz Tryz.func54 rfl hB hBd hS (by kernel_rfl) rfl
    · skip
      refine runs_seq ?_
      refine reg [(0, .dec true)] [0, 1, 2, 9, 10, 11, 12] hG hS (env := [(0, .sl (l.map Law.av)), (1, .fn (.func 55) [] []), (2, .fn (.func 58) [] []), (9, .sl (l.map Law.av)), (10, .int .i64 ((l.length : Nat) : Int)), (11, .int .i64 ((pre.length : Nat) : Int)), (12, .bool true)]) (own := []) (obs := [decide (((pre.length : Nat) : Int) < ((l.length : Nat) : Int)) = true]) (by kernel_rfl) ((lt_yes hl)) fun ac wd hS => ?_
      refine runs_seq ?_
      refine cond_yes hS (c := true) (by kernel_rfl) rfl ?_
      refine runs_skip ?_
      refine runs_seq ?_
      refine runs_block ?_
      refine runs_seq ?_
      refine reg [(1, .av (Law.av x))] [0, 1, 2, 9, 10, 11, 8, 7] hG hS (env := [(0, .sl (l.map Law.av)), (1, .fn (.func 55) [] []), (2, .fn (.func 58) [] []), (9, .sl (l.map Law.av)), (10, .int .i64 ((l.length : Nat) : Int)), (11, .int .i64 ((pre.length : Nat) : Int)), (8, .box 0 0), (7, .int .i64 ((pre.length : Nat) : Int))]) (own := [.box none 66 [.int .i64 x.Land, .int .u8 (U8.i x.Kind), .int .u8 (U8.i x.Base), .int .i64 x.Keep]]) (obs := [0 ≤ (((pre.length : Nat) : Int) : Int) ∧ (l.map Law.av : List AV)[(((pre.length : Nat) : Int) : Int).toNat]? = some (Law.av x)]) (by kernel_rfl) ((idx_ok hl)) fun ac wd hS => ?_
      refine runs_seq ?_
      rcases Bool.eq_false_or_eq_true (lawOK x) with hb2 | hb2
      · skip
        rcases Bool.eq_false_or_eq_true (decide ((lawCmp y x) ≥ 0)) with hb3 | hb3
        · skip
          refine drw [(2, .av (.bool (lawOK x))), (4, .dec false), (7, .dec true), (12, .av (Law.av y)), (15, .av (.int .i64 (lawCmp y x))), (18, .dec true)] [0, 1, 2, 9, 10, 11, 34] hG hS (env := [(0, .sl (l.map Law.av)), (1, .fn (.func 55) [] []), (2, .fn (.func 58) [] []), (9, .sl (l.map Law.av)), (10, .int .i64 ((l.length : Nat) : Int)), (11, .int .i64 ((pre.length : Nat) : Int)), (34, .bool true)]) (own := [.box none 66 [.int .i64 x.Land, .int .u8 (U8.i x.Kind), .int .u8 (U8.i x.Base), .int .i64 x.Keep]]) (obs := [CallA Tryz.prog GT 55 [Law.av x] (.bool (lawOK x)), (!lawOK x) = false, decide (((pre.length : Nat) : Int) > 0) = true, 0 ≤ (IntKind.i64.wrap (((pre.length : Nat) : Int) - 1) : Int) ∧ (l.map Law.av : List AV)[(IntKind.i64.wrap (((pre.length : Nat) : Int) - 1) : Int).toNat]? = some (Law.av y), CallA Tryz.prog GT 58 [Law.av y, Law.av x] (.int .i64 (lawCmp y x)), decide ((lawCmp y x) ≥ 0) = true]) (by kernel_rfl) (by kernel_rfl) (⟨(lawOK_ok _), by rw [hb2]; rfl, (pos_yes hp), (idx_prev hl hp hn), (lawCmp_ok _ _), hb3⟩) fun ac wd hS => ?_
          refine cond_yes hS (c := true) (by kernel_rfl) rfl ?_
          refine runs_seq ?_
          refine reg [] [6] hG hS (env := [(6, .bool false)]) (own := [.box none 66 [.int .i64 x.Land, .int .u8 (U8.i x.Kind), .int .u8 (U8.i x.Base), .int .i64 x.Keep]]) (obs := []) (by kernel_rfl) (trivial) fun ac wd hS => ?_
          rw [rise_no2 hp hr hb3]
          exact retz Tryz.func54 rfl hB hBd hS (by kernel_rfl) rfl
        · skip
          refine drw [(2, .av (.bool (lawOK x))), (4, .dec false), (7, .dec true), (12, .av (Law.av y)), (15, .av (.int .i64 (lawCmp y x))), (18, .dec false)] [0, 1, 2, 9, 10, 11, 34] hG hS (env := [(0, .sl (l.map Law.av)), (1, .fn (.func 55) [] []), (2, .fn (.func 58) [] []), (9, .sl (l.map Law.av)), (10, .int .i64 ((l.length : Nat) : Int)), (11, .int .i64 ((pre.length : Nat) : Int)), (34, .bool false)]) (own := [.box none 66 [.int .i64 x.Land, .int .u8 (U8.i x.Kind), .int .u8 (U8.i x.Base), .int .i64 x.Keep]]) (obs := [CallA Tryz.prog GT 55 [Law.av x] (.bool (lawOK x)), (!lawOK x) = false, decide (((pre.length : Nat) : Int) > 0) = true, 0 ≤ (IntKind.i64.wrap (((pre.length : Nat) : Int) - 1) : Int) ∧ (l.map Law.av : List AV)[(IntKind.i64.wrap (((pre.length : Nat) : Int) - 1) : Int).toNat]? = some (Law.av y), CallA Tryz.prog GT 58 [Law.av y, Law.av x] (.int .i64 (lawCmp y x)), decide ((lawCmp y x) ≥ 0) = false]) (by kernel_rfl) (by kernel_rfl) (⟨(lawOK_ok _), by rw [hb2]; rfl, (pos_yes hp), (idx_prev hl hp hn), (lawCmp_ok _ _), hb3⟩) fun ac wd hS => ?_
          refine cond_no hS (c := false) (by kernel_rfl) rfl ?_
          refine runs_skip ?_
          refine runs_inBlock ?_
          refine reg [(0, .is (((pre ++ [x]).length : Nat) : Int))] [0, 1, 2, 9, 10, 11] hG hS (env := [(0, .sl (l.map Law.av)), (1, .fn (.func 55) [] []), (2, .fn (.func 58) [] []), (9, .sl (l.map Law.av)), (10, .int .i64 ((l.length : Nat) : Int)), (11, .int .i64 (((pre ++ [x]).length : Nat) : Int))]) (own := [.box none 66 [.int .i64 x.Land, .int .u8 (U8.i x.Kind), .int .u8 (U8.i x.Base), .int .i64 x.Keep]]) (obs := [IntKind.i64.wrap (((pre.length : Nat) : Int) + 1) = (((pre ++ [x]).length : Nat) : Int)]) (by kernel_rfl) ((next_len hl hn)) fun ac wd hS => ?_
          refine runs_inLoop ?_
          exact ihx _ _ (pre ++ [x])  (next_eq hl) (rise_some hp hr hb2 hb3) (hS.sel [] [0, 1, 2, 9, 10, 11] (by kernel_rfl))
      · skip
        refine drw [(2, .av (.bool (lawOK x))), (4, .dec true)] [0, 1, 2, 9, 10, 11, 34] hG hS (env := [(0, .sl (l.map Law.av)), (1, .fn (.func 55) [] []), (2, .fn (.func 58) [] []), (9, .sl (l.map Law.av)), (10, .int .i64 ((l.length : Nat) : Int)), (11, .int .i64 ((pre.length : Nat) : Int)), (34, .bool true)]) (own := [.box none 66 [.int .i64 x.Land, .int .u8 (U8.i x.Kind), .int .u8 (U8.i x.Base), .int .i64 x.Keep]]) (obs := [CallA Tryz.prog GT 55 [Law.av x] (.bool (lawOK x)), (!lawOK x) = true]) (by kernel_rfl) (by kernel_rfl) (⟨(lawOK_ok _), by rw [hb2]; rfl⟩) fun ac wd hS => ?_
        refine cond_yes hS (c := true) (by kernel_rfl) rfl ?_
        refine runs_seq ?_
        refine reg [] [6] hG hS (env := [(6, .bool false)]) (own := [.box none 66 [.int .i64 x.Land, .int .u8 (U8.i x.Kind), .int .u8 (U8.i x.Base), .int .i64 x.Keep]]) (obs := []) (by kernel_rfl) (trivial) fun ac wd hS => ?_
        rw [rise_no1 hr hb2]
        exact retz Tryz.func54 rfl hB hBd hS (by kernel_rfl) rfl
theorem rising_ok62 (l : List Still) (hn : l.length ≤ 65536) : CallA Tryz.prog GT 62 [.sl (l.map Still.av), .fn (.func 63) [] [], .fn (.func 64) [] []] (.bool (risingB stillOK stillCmp none l)) := by
  refine callA_of Tryz.func62 rfl (by simp [Tryz.f62]) rfl fun B ac hB hBd hG hS => ?_
  refine runs_seq ?_
  refine reg [] [0, 1, 2] hG hS (env := [(0, .sl (l.map Still.av)), (1, .fn (.func 63) [] []), (2, .fn (.func 64) [] [])]) (own := []) (obs := []) (by kernel_rfl) (trivial) fun ac wd hS => ?_
  refine runs_seq ?_
  refine runs_seq ?_
  refine reg [(1, .is ((l.length : Nat) : Int))] [0, 1, 2, 9, 10, 11] hG hS (env := [(0, .sl (l.map Still.av)), (1, .fn (.func 63) [] []), (2, .fn (.func 64) [] []), (9, .sl (l.map Still.av)), (10, .int .i64 ((l.length : Nat) : Int)), (11, .int .i64 0)]) (own := []) (obs := [((l.map Still.av).length : Int) = ((l.length : Nat) : Int)]) (by kernel_rfl) (len_map) fun ac wd hS => ?_
  refine runs_block ?_
  refine runs_loop ?_
  have hinv : ∃ (pre rest : List Still), l = pre ++ rest ∧ (risingB stillOK stillCmp none l = risingB stillOK stillCmp pre.getLast? rest) ∧ Sat B ⟨Tryz.f62.ntmps, [(0, .sl (l.map Still.av)), (1, .fn (.func 63) [] []), (2, .fn (.func 64) [] []), (9, .sl (l.map Still.av)), (10, .int .i64 ((l.length : Nat) : Int)), (11, .int .i64 ((pre.length : Nat) : Int))], []⟩ ac wd := ⟨[], l, rfl, rfl, hS.sel [] [0, 1, 2, 9, 10, 11] (by kernel_rfl)⟩
  clear hS
  obtain ⟨pre, rest, hl, hr, hS⟩ := hinv
  induction rest generalizing pre  ac wd with
  | nil =>
    refine runs_seq ?_
    refine reg [(0, .dec false)] [0, 1, 2, 9, 10, 11, 12] hG hS (env := [(0, .sl (l.map Still.av)), (1, .fn (.func 63) [] []), (2, .fn (.func 64) [] []), (9, .sl (l.map Still.av)), (10, .int .i64 ((l.length : Nat) : Int)), (11, .int .i64 ((pre.length : Nat) : Int)), (12, .bool false)]) (own := []) (obs := [decide (((pre.length : Nat) : Int) < ((l.length : Nat) : Int)) = false]) (by kernel_rfl) ((lt_no hl)) fun ac wd hS => ?_
    refine runs_seq ?_
    refine cond_no hS (c := false) (by kernel_rfl) rfl ?_
    refine runs_exit (by rfl) ?_
    refine runs_seq ?_
    refine reg [] [6] hG hS (env := [(6, .bool true)]) (own := []) (obs := []) (by kernel_rfl) (trivial) fun ac wd hS => ?_
    rw [rise_end hr]
    exact retz Tryz.func62 rfl hB hBd hS (by kernel_rfl) rfl
  | cons x rest ihx =>
    rcases snoc_cases pre with hp | ⟨pr, y, hp⟩
    · skip
      refine runs_seq ?_
      refine reg [(0, .dec true)] [0, 1, 2, 9, 10, 11, 12] hG hS (env := [(0, .sl (l.map Still.av)), (1, .fn (.func 63) [] []), (2, .fn (.func 64) [] []), (9, .sl (l.map Still.av)), (10, .int .i64 ((l.length : Nat) : Int)), (11, .int .i64 ((pre.length : Nat) : Int)), (12, .bool true)]) (own := []) (obs := [decide (((pre.length : Nat) : Int) < ((l.length : Nat) : Int)) = true]) (by kernel_rfl) ((lt_yes hl)) fun ac wd hS => ?_
      refine runs_seq ?_
      refine cond_yes hS (c := true) (by kernel_rfl) rfl ?_
      refine runs_skip ?_
      refine runs_seq ?_
      refine runs_block ?_
      refine runs_seq ?_
      refine reg [(1, .av (Still.av x))] [0, 1, 2, 9, 10, 11, 8, 7] hG hS (env := [(0, .sl (l.map Still.av)), (1, .fn (.func 63) [] []), (2, .fn (.func 64) [] []), (9, .sl (l.map Still.av)), (10, .int .i64 ((l.length : Nat) : Int)), (11, .int .i64 ((pre.length : Nat) : Int)), (8, .box 0 0), (7, .int .i64 ((pre.length : Nat) : Int))]) (own := [.box none 91 [.int .i64 x.Land, .int .i64 x.Days, .int .u8 (U8.i x.Means)]]) (obs := [0 ≤ (((pre.length : Nat) : Int) : Int) ∧ (l.map Still.av : List AV)[(((pre.length : Nat) : Int) : Int).toNat]? = some (Still.av x)]) (by kernel_rfl) ((idx_ok hl)) fun ac wd hS => ?_
      refine runs_seq ?_
      rcases Bool.eq_false_or_eq_true (stillOK x) with hb1 | hb1
      · skip
        refine drw [(2, .av (.bool (stillOK x))), (4, .dec false), (7, .dec false)] [0, 1, 2, 9, 10, 11, 34] hG hS (env := [(0, .sl (l.map Still.av)), (1, .fn (.func 63) [] []), (2, .fn (.func 64) [] []), (9, .sl (l.map Still.av)), (10, .int .i64 ((l.length : Nat) : Int)), (11, .int .i64 ((pre.length : Nat) : Int)), (34, .bool false)]) (own := [.box none 91 [.int .i64 x.Land, .int .i64 x.Days, .int .u8 (U8.i x.Means)]]) (obs := [CallA Tryz.prog GT 63 [Still.av x] (.bool (stillOK x)), (!stillOK x) = false, decide (((pre.length : Nat) : Int) > 0) = false]) (by kernel_rfl) (by kernel_rfl) (⟨(stillOK_ok _), by rw [hb1]; rfl, (pos_no hp)⟩) fun ac wd hS => ?_
        refine cond_no hS (c := false) (by kernel_rfl) rfl ?_
        refine runs_skip ?_
        refine runs_inBlock ?_
        refine reg [(0, .is (((pre ++ [x]).length : Nat) : Int))] [0, 1, 2, 9, 10, 11] hG hS (env := [(0, .sl (l.map Still.av)), (1, .fn (.func 63) [] []), (2, .fn (.func 64) [] []), (9, .sl (l.map Still.av)), (10, .int .i64 ((l.length : Nat) : Int)), (11, .int .i64 (((pre ++ [x]).length : Nat) : Int))]) (own := [.box none 91 [.int .i64 x.Land, .int .i64 x.Days, .int .u8 (U8.i x.Means)]]) (obs := [IntKind.i64.wrap (((pre.length : Nat) : Int) + 1) = (((pre ++ [x]).length : Nat) : Int)]) (by kernel_rfl) ((next_len hl hn)) fun ac wd hS => ?_
        refine runs_inLoop ?_
        exact ihx _ _ (pre ++ [x])  (next_eq hl) (rise_nil hp hr hb1) (hS.sel [] [0, 1, 2, 9, 10, 11] (by kernel_rfl))
      · skip
        refine drw [(2, .av (.bool (stillOK x))), (4, .dec true)] [0, 1, 2, 9, 10, 11, 34] hG hS (env := [(0, .sl (l.map Still.av)), (1, .fn (.func 63) [] []), (2, .fn (.func 64) [] []), (9, .sl (l.map Still.av)), (10, .int .i64 ((l.length : Nat) : Int)), (11, .int .i64 ((pre.length : Nat) : Int)), (34, .bool true)]) (own := [.box none 91 [.int .i64 x.Land, .int .i64 x.Days, .int .u8 (U8.i x.Means)]]) (obs := [CallA Tryz.prog GT 63 [Still.av x] (.bool (stillOK x)), (!stillOK x) = true]) (by kernel_rfl) (by kernel_rfl) (⟨(stillOK_ok _), by rw [hb1]; rfl⟩) fun ac wd hS => ?_
        refine cond_yes hS (c := true) (by kernel_rfl) rfl ?_
        refine runs_seq ?_
        refine reg [] [6] hG hS (env := [(6, .bool false)]) (own := [.box none 91 [.int .i64 x.Land, .int .i64 x.Days, .int .u8 (U8.i x.Means)]]) (obs := []) (by kernel_rfl) (trivial) fun ac wd hS => ?_
        rw [rise_no1 hr hb1]
        exact retz Tryz.func62 rfl hB hBd hS (by kernel_rfl) rfl
    · skip
      refine runs_seq ?_
      refine reg [(0, .dec true)] [0, 1, 2, 9, 10, 11, 12] hG hS (env := [(0, .sl (l.map Still.av)), (1, .fn (.func 63) [] []), (2, .fn (.func 64) [] []), (9, .sl (l.map Still.av)), (10, .int .i64 ((l.length : Nat) : Int)), (11, .int .i64 ((pre.length : Nat) : Int)), (12, .bool true)]) (own := []) (obs := [decide (((pre.length : Nat) : Int) < ((l.length : Nat) : Int)) = true]) (by kernel_rfl) ((lt_yes hl)) fun ac wd hS => ?_
      refine runs_seq ?_
      refine cond_yes hS (c := true) (by kernel_rfl) rfl ?_
      refine runs_skip ?_
      refine runs_seq ?_
      refine runs_block ?_
      refine runs_seq ?_
      refine reg [(1, .av (Still.av x))] [0, 1, 2, 9, 10, 11, 8, 7] hG hS (env := [(0, .sl (l.map Still.av)), (1, .fn (.func 63) [] []), (2, .fn (.func 64) [] []), (9, .sl (l.map Still.av)), (10, .int .i64 ((l.length : Nat) : Int)), (11, .int .i64 ((pre.length : Nat) : Int)), (8, .box 0 0), (7, .int .i64 ((pre.length : Nat) : Int))]) (own := [.box none 91 [.int .i64 x.Land, .int .i64 x.Days, .int .u8 (U8.i x.Means)]]) (obs := [0 ≤ (((pre.length : Nat) : Int) : Int) ∧ (l.map Still.av : List AV)[(((pre.length : Nat) : Int) : Int).toNat]? = some (Still.av x)]) (by kernel_rfl) ((idx_ok hl)) fun ac wd hS => ?_
      refine runs_seq ?_
      rcases Bool.eq_false_or_eq_true (stillOK x) with hb2 | hb2
      · skip
        rcases Bool.eq_false_or_eq_true (decide ((stillCmp y x) ≥ 0)) with hb3 | hb3
        · skip
          refine drw [(2, .av (.bool (stillOK x))), (4, .dec false), (7, .dec true), (12, .av (Still.av y)), (15, .av (.int .i64 (stillCmp y x))), (18, .dec true)] [0, 1, 2, 9, 10, 11, 34] hG hS (env := [(0, .sl (l.map Still.av)), (1, .fn (.func 63) [] []), (2, .fn (.func 64) [] []), (9, .sl (l.map Still.av)), (10, .int .i64 ((l.length : Nat) : Int)), (11, .int .i64 ((pre.length : Nat) : Int)), (34, .bool true)]) (own := [.box none 91 [.int .i64 x.Land, .int .i64 x.Days, .int .u8 (U8.i x.Means)]]) (obs := [CallA Tryz.prog GT 63 [Still.av x] (.bool (stillOK x)), (!stillOK x) = false, decide (((pre.length : Nat) : Int) > 0) = true, 0 ≤ (IntKind.i64.wrap (((pre.length : Nat) : Int) - 1) : Int) ∧ (l.map Still.av : List AV)[(IntKind.i64.wrap (((pre.length : Nat) : Int) - 1) : Int).toNat]? = some (Still.av y), CallA Tryz.prog GT 64 [Still.av y, Still.av x] (.int .i64 (stillCmp y x)), decide ((stillCmp y x) ≥ 0) = true]) (by kernel_rfl) (by kernel_rfl) (⟨(stillOK_ok _), by rw [hb2]; rfl, (pos_yes hp), (idx_prev hl hp hn), (stillCmp_ok _ _), hb3⟩) fun ac wd hS => ?_
          refine cond_yes hS (c := true) (by kernel_rfl) rfl ?_
          refine runs_seq ?_
          refine reg [] [6] hG hS (env := [(6, .bool false)]) (own := [.box none 91 [.int .i64 x.Land, .int .i64 x.Days, .int .u8 (U8.i x.Means)]]) (obs := []) (by kernel_rfl) (trivial) fun ac wd hS => ?_
          rw [rise_no2 hp hr hb3]
          exact retz Tryz.func62 rfl hB hBd hS (by kernel_rfl) rfl
        · skip
          refine drw [(2, .av (.bool (stillOK x))), (4, .dec false), (7, .dec true), (12, .av (Still.av y)), (15, .av (.int .i64 (stillCmp y x))), (18, .dec false)] [0, 1, 2, 9, 10, 11, 34] hG hS (env := [(0, .sl (l.map Still.av)), (1, .fn (.func 63) [] []), (2, .fn (.func 64) [] []), (9, .sl (l.map Still.av)), (10, .int .i64 ((l.length : Nat) : Int)), (11, .int .i64 ((pre.length : Nat) : Int)), (34, .bool false)]) (own := [.box none 91 [.int .i64 x.Land, .int .i64 x.Days, .int .u8 (U8.i x.Means)]]) (obs := [CallA Tryz.prog GT 63 [Still.av x] (.bool (stillOK x)), (!stillOK x) = false, decide (((pre.length : Nat) : Int) > 0) = true, 0 ≤ (IntKind.i64.wrap (((pre.length : Nat) : Int) - 1) : Int) ∧ (l.map Still.av : List AV)[(IntKind.i64.wrap (((pre.length : Nat) : Int) - 1) : Int).toNat]? = some (Still.av y), CallA Tryz.prog GT 64 [Still.av y, Still.av x] (.int .i64 (stillCmp y x)), decide ((stillCmp y x) ≥ 0) = false]) (by kernel_rfl) (by kernel_rfl) (⟨(stillOK_ok _), by rw [hb2]; rfl, (pos_yes hp), (idx_prev hl hp hn), (stillCmp_ok _ _), hb3⟩) fun ac wd hS => ?_
          refine cond_no hS (c := false) (by kernel_rfl) rfl ?_
          refine runs_skip ?_
          refine runs_inBlock ?_
          refine reg [(0, .is (((pre ++ [x]).length : Nat) : Int))] [0, 1, 2, 9, 10, 11] hG hS (env := [(0, .sl (l.map Still.av)), (1, .fn (.func 63) [] []), (2, .fn (.func 64) [] []), (9, .sl (l.map Still.av)), (10, .int .i64 ((l.length : Nat) : Int)), (11, .int .i64 (((pre ++ [x]).length : Nat) : Int))]) (own := [.box none 91 [.int .i64 x.Land, .int .i64 x.Days, .int .u8 (U8.i x.Means)]]) (obs := [IntKind.i64.wrap (((pre.length : Nat) : Int) + 1) = (((pre ++ [x]).length : Nat) : Int)]) (by kernel_rfl) ((next_len hl hn)) fun ac wd hS => ?_
          refine runs_inLoop ?_
          exact ihx _ _ (pre ++ [x])  (next_eq hl) (rise_some hp hr hb2 hb3) (hS.sel [] [0, 1, 2, 9, 10, 11] (by kernel_rfl))
      · skip
        refine drw [(2, .av (.bool (stillOK x))), (4, .dec true)] [0, 1, 2, 9, 10, 11, 34] hG hS (env := [(0, .sl (l.map Still.av)), (1, .fn (.func 63) [] []), (2, .fn (.func 64) [] []), (9, .sl (l.map Still.av)), (10, .int .i64 ((l.length : Nat) : Int)), (11, .int .i64 ((pre.length : Nat) : Int)), (34, .bool true)]) (own := [.box none 91 [.int .i64 x.Land, .int .i64 x.Days, .int .u8 (U8.i x.Means)]]) (obs := [CallA Tryz.prog GT 63 [Still.av x] (.bool (stillOK x)), (!stillOK x) = true]) (by kernel_rfl) (by kernel_rfl) (⟨(stillOK_ok _), by rw [hb2]; rfl⟩) fun ac wd hS => ?_
        refine cond_yes hS (c := true) (by kernel_rfl) rfl ?_
        refine runs_seq ?_
        refine reg [] [6] hG hS (env := [(6, .bool false)]) (own := [.box none 91 [.int .i64 x.Land, .int .i64 x.Days, .int .u8 (U8.i x.Means)]]) (obs := []) (by kernel_rfl) (trivial) fun ac wd hS => ?_
        rw [rise_no1 hr hb2]
        exact retz Tryz.func62 rfl hB hBd hS (by kernel_rfl) rfl
theorem rising_ok65 (l : List Home) (hn : l.length ≤ 65536) : CallA Tryz.prog GT 65 [.sl (l.map Home.av), .fn (.func 66) [] [], .fn (.func 67) [] []] (.bool (risingB homeOK homeCmp none l)) := by
  refine callA_of Tryz.func65 rfl (by simp [Tryz.f65]) rfl fun B ac hB hBd hG hS => ?_
  refine runs_seq ?_
  refine reg [] [0, 1, 2] hG hS (env := [(0, .sl (l.map Home.av)), (1, .fn (.func 66) [] []), (2, .fn (.func 67) [] [])]) (own := []) (obs := []) (by kernel_rfl) (trivial) fun ac wd hS => ?_
  refine runs_seq ?_
  refine runs_seq ?_
  refine reg [(1, .is ((l.length : Nat) : Int))] [0, 1, 2, 9, 10, 11] hG hS (env := [(0, .sl (l.map Home.av)), (1, .fn (.func 66) [] []), (2, .fn (.func 67) [] []), (9, .sl (l.map Home.av)), (10, .int .i64 ((l.length : Nat) : Int)), (11, .int .i64 0)]) (own := []) (obs := [((l.map Home.av).length : Int) = ((l.length : Nat) : Int)]) (by kernel_rfl) (len_map) fun ac wd hS => ?_
  refine runs_block ?_
  refine runs_loop ?_
  have hinv : ∃ (pre rest : List Home), l = pre ++ rest ∧ (risingB homeOK homeCmp none l = risingB homeOK homeCmp pre.getLast? rest) ∧ Sat B ⟨Tryz.f65.ntmps, [(0, .sl (l.map Home.av)), (1, .fn (.func 66) [] []), (2, .fn (.func 67) [] []), (9, .sl (l.map Home.av)), (10, .int .i64 ((l.length : Nat) : Int)), (11, .int .i64 ((pre.length : Nat) : Int))], []⟩ ac wd := ⟨[], l, rfl, rfl, hS.sel [] [0, 1, 2, 9, 10, 11] (by kernel_rfl)⟩
  clear hS
  obtain ⟨pre, rest, hl, hr, hS⟩ := hinv
  induction rest generalizing pre  ac wd with
  | nil =>
    refine runs_seq ?_
    refine reg [(0, .dec false)] [0, 1, 2, 9, 10, 11, 12] hG hS (env := [(0, .sl (l.map Home.av)), (1, .fn (.func 66) [] []), (2, .fn (.func 67) [] []), (9, .sl (l.map Home.av)), (10, .int .i64 ((l.length : Nat) : Int)), (11, .int .i64 ((pre.length : Nat) : Int)), (12, .bool false)]) (own := []) (obs := [decide (((pre.length : Nat) : Int) < ((l.length : Nat) : Int)) = false]) (by kernel_rfl) ((lt_no hl)) fun ac wd hS => ?_
    refine runs_seq ?_
    refine cond_no hS (c := false) (by kernel_rfl) rfl ?_
    refine runs_exit (by rfl) ?_
    refine runs_seq ?_
    refine reg [] [6] hG hS (env := [(6, .bool true)]) (own := []) (obs := []) (by kernel_rfl) (trivial) fun ac wd hS => ?_
    rw [rise_end hr]
    exact retz Tryz.func65 rfl hB hBd hS (by kernel_rfl) rfl
  | cons x rest ihx =>
    rcases snoc_cases pre with hp | ⟨pr, y, hp⟩
    · skip
      refine runs_seq ?_
      refine reg [(0, .dec true)] [0, 1, 2, 9, 10, 11, 12] hG hS (env := [(0, .sl (l.map Home.av)), (1, .fn (.func 66) [] []), (2, .fn (.func 67) [] []), (9, .sl (l.map Home.av)), (10, .int .i64 ((l.length : Nat) : Int)), (11, .int .i64 ((pre.length : Nat) : Int)), (12, .bool true)]) (own := []) (obs := [decide (((pre.length : Nat) : Int) < ((l.length : Nat) : Int)) = true]) (by kernel_rfl) ((lt_yes hl)) fun ac wd hS => ?_
      refine runs_seq ?_
      refine cond_yes hS (c := true) (by kernel_rfl) rfl ?_
      refine runs_skip ?_
      refine runs_seq ?_
      refine runs_block ?_
      refine runs_seq ?_
      refine reg [(1, .av (Home.av x))] [0, 1, 2, 9, 10, 11, 8, 7] hG hS (env := [(0, .sl (l.map Home.av)), (1, .fn (.func 66) [] []), (2, .fn (.func 67) [] []), (9, .sl (l.map Home.av)), (10, .int .i64 ((l.length : Nat) : Int)), (11, .int .i64 ((pre.length : Nat) : Int)), (8, .box 0 0), (7, .int .i64 ((pre.length : Nat) : Int))]) (own := [.box none 68 [.int .i64 x.Account, .int .i64 x.Land]]) (obs := [0 ≤ (((pre.length : Nat) : Int) : Int) ∧ (l.map Home.av : List AV)[(((pre.length : Nat) : Int) : Int).toNat]? = some (Home.av x)]) (by kernel_rfl) ((idx_ok hl)) fun ac wd hS => ?_
      refine runs_seq ?_
      rcases Bool.eq_false_or_eq_true (homeOK x) with hb1 | hb1
      · skip
        refine drw [(2, .av (.bool (homeOK x))), (4, .dec false), (7, .dec false)] [0, 1, 2, 9, 10, 11, 34] hG hS (env := [(0, .sl (l.map Home.av)), (1, .fn (.func 66) [] []), (2, .fn (.func 67) [] []), (9, .sl (l.map Home.av)), (10, .int .i64 ((l.length : Nat) : Int)), (11, .int .i64 ((pre.length : Nat) : Int)), (34, .bool false)]) (own := [.box none 68 [.int .i64 x.Account, .int .i64 x.Land]]) (obs := [CallA Tryz.prog GT 66 [Home.av x] (.bool (homeOK x)), (!homeOK x) = false, decide (((pre.length : Nat) : Int) > 0) = false]) (by kernel_rfl) (by kernel_rfl) (⟨(homeOK_ok _), by rw [hb1]; rfl, (pos_no hp)⟩) fun ac wd hS => ?_
        refine cond_no hS (c := false) (by kernel_rfl) rfl ?_
        refine runs_skip ?_
        refine runs_inBlock ?_
        refine reg [(0, .is (((pre ++ [x]).length : Nat) : Int))] [0, 1, 2, 9, 10, 11] hG hS (env := [(0, .sl (l.map Home.av)), (1, .fn (.func 66) [] []), (2, .fn (.func 67) [] []), (9, .sl (l.map Home.av)), (10, .int .i64 ((l.length : Nat) : Int)), (11, .int .i64 (((pre ++ [x]).length : Nat) : Int))]) (own := [.box none 68 [.int .i64 x.Account, .int .i64 x.Land]]) (obs := [IntKind.i64.wrap (((pre.length : Nat) : Int) + 1) = (((pre ++ [x]).length : Nat) : Int)]) (by kernel_rfl) ((next_len hl hn)) fun ac wd hS => ?_
        refine runs_inLoop ?_
        exact ihx _ _ (pre ++ [x])  (next_eq hl) (rise_nil hp hr hb1) (hS.sel [] [0, 1, 2, 9, 10, 11] (by kernel_rfl))
      · skip
        refine drw [(2, .av (.bool (homeOK x))), (4, .dec true)] [0, 1, 2, 9, 10, 11, 34] hG hS (env := [(0, .sl (l.map Home.av)), (1, .fn (.func 66) [] []), (2, .fn (.func 67) [] []), (9, .sl (l.map Home.av)), (10, .int .i64 ((l.length : Nat) : Int)), (11, .int .i64 ((pre.length : Nat) : Int)), (34, .bool true)]) (own := [.box none 68 [.int .i64 x.Account, .int .i64 x.Land]]) (obs := [CallA Tryz.prog GT 66 [Home.av x] (.bool (homeOK x)), (!homeOK x) = true]) (by kernel_rfl) (by kernel_rfl) (⟨(homeOK_ok _), by rw [hb1]; rfl⟩) fun ac wd hS => ?_
        refine cond_yes hS (c := true) (by kernel_rfl) rfl ?_
        refine runs_seq ?_
        refine reg [] [6] hG hS (env := [(6, .bool false)]) (own := [.box none 68 [.int .i64 x.Account, .int .i64 x.Land]]) (obs := []) (by kernel_rfl) (trivial) fun ac wd hS => ?_
        rw [rise_no1 hr hb1]
        exact retz Tryz.func65 rfl hB hBd hS (by kernel_rfl) rfl
    · skip
      refine runs_seq ?_
      refine reg [(0, .dec true)] [0, 1, 2, 9, 10, 11, 12] hG hS (env := [(0, .sl (l.map Home.av)), (1, .fn (.func 66) [] []), (2, .fn (.func 67) [] []), (9, .sl (l.map Home.av)), (10, .int .i64 ((l.length : Nat) : Int)), (11, .int .i64 ((pre.length : Nat) : Int)), (12, .bool true)]) (own := []) (obs := [decide (((pre.length : Nat) : Int) < ((l.length : Nat) : Int)) = true]) (by kernel_rfl) ((lt_yes hl)) fun ac wd hS => ?_
      refine runs_seq ?_
      refine cond_yes hS (c := true) (by kernel_rfl) rfl ?_
      refine runs_skip ?_
      refine runs_seq ?_
      refine runs_block ?_
      refine runs_seq ?_
      refine reg [(1, .av (Home.av x))] [0, 1, 2, 9, 10, 11, 8, 7] hG hS (env := [(0, .sl (l.map Home.av)), (1, .fn (.func 66) [] []), (2, .fn (.func 67) [] []), (9, .sl (l.map Home.av)), (10, .int .i64 ((l.length : Nat) : Int)), (11, .int .i64 ((pre.length : Nat) : Int)), (8, .box 0 0), (7, .int .i64 ((pre.length : Nat) : Int))]) (own := [.box none 68 [.int .i64 x.Account, .int .i64 x.Land]]) (obs := [0 ≤ (((pre.length : Nat) : Int) : Int) ∧ (l.map Home.av : List AV)[(((pre.length : Nat) : Int) : Int).toNat]? = some (Home.av x)]) (by kernel_rfl) ((idx_ok hl)) fun ac wd hS => ?_
      refine runs_seq ?_
      rcases Bool.eq_false_or_eq_true (homeOK x) with hb2 | hb2
      · skip
        rcases Bool.eq_false_or_eq_true (decide ((homeCmp y x) ≥ 0)) with hb3 | hb3
        · skip
          refine drw [(2, .av (.bool (homeOK x))), (4, .dec false), (7, .dec true), (12, .av (Home.av y)), (15, .av (.int .i64 (homeCmp y x))), (18, .dec true)] [0, 1, 2, 9, 10, 11, 34] hG hS (env := [(0, .sl (l.map Home.av)), (1, .fn (.func 66) [] []), (2, .fn (.func 67) [] []), (9, .sl (l.map Home.av)), (10, .int .i64 ((l.length : Nat) : Int)), (11, .int .i64 ((pre.length : Nat) : Int)), (34, .bool true)]) (own := [.box none 68 [.int .i64 x.Account, .int .i64 x.Land]]) (obs := [CallA Tryz.prog GT 66 [Home.av x] (.bool (homeOK x)), (!homeOK x) = false, decide (((pre.length : Nat) : Int) > 0) = true, 0 ≤ (IntKind.i64.wrap (((pre.length : Nat) : Int) - 1) : Int) ∧ (l.map Home.av : List AV)[(IntKind.i64.wrap (((pre.length : Nat) : Int) - 1) : Int).toNat]? = some (Home.av y), CallA Tryz.prog GT 67 [Home.av y, Home.av x] (.int .i64 (homeCmp y x)), decide ((homeCmp y x) ≥ 0) = true]) (by kernel_rfl) (by kernel_rfl) (⟨(homeOK_ok _), by rw [hb2]; rfl, (pos_yes hp), (idx_prev hl hp hn), (homeCmp_ok _ _), hb3⟩) fun ac wd hS => ?_
          refine cond_yes hS (c := true) (by kernel_rfl) rfl ?_
          refine runs_seq ?_
          refine reg [] [6] hG hS (env := [(6, .bool false)]) (own := [.box none 68 [.int .i64 x.Account, .int .i64 x.Land]]) (obs := []) (by kernel_rfl) (trivial) fun ac wd hS => ?_
          rw [rise_no2 hp hr hb3]
          exact retz Tryz.func65 rfl hB hBd hS (by kernel_rfl) rfl
        · skip
          refine drw [(2, .av (.bool (homeOK x))), (4, .dec false), (7, .dec true), (12, .av (Home.av y)), (15, .av (.int .i64 (homeCmp y x))), (18, .dec false)] [0, 1, 2, 9, 10, 11, 34] hG hS (env := [(0, .sl (l.map Home.av)), (1, .fn (.func 66) [] []), (2, .fn (.func 67) [] []), (9, .sl (l.map Home.av)), (10, .int .i64 ((l.length : Nat) : Int)), (11, .int .i64 ((pre.length : Nat) : Int)), (34, .bool false)]) (own := [.box none 68 [.int .i64 x.Account, .int .i64 x.Land]]) (obs := [CallA Tryz.prog GT 66 [Home.av x] (.bool (homeOK x)), (!homeOK x) = false, decide (((pre.length : Nat) : Int) > 0) = true, 0 ≤ (IntKind.i64.wrap (((pre.length : Nat) : Int) - 1) : Int) ∧ (l.map Home.av : List AV)[(IntKind.i64.wrap (((pre.length : Nat) : Int) - 1) : Int).toNat]? = some (Home.av y), CallA Tryz.prog GT 67 [Home.av y, Home.av x] (.int .i64 (homeCmp y x)), decide ((homeCmp y x) ≥ 0) = false]) (by kernel_rfl) (by kernel_rfl) (⟨(homeOK_ok _), by rw [hb2]; rfl, (pos_yes hp), (idx_prev hl hp hn), (homeCmp_ok _ _), hb3⟩) fun ac wd hS => ?_
          refine cond_no hS (c := false) (by kernel_rfl) rfl ?_
          refine runs_skip ?_
          refine runs_inBlock ?_
          refine reg [(0, .is (((pre ++ [x]).length : Nat) : Int))] [0, 1, 2, 9, 10, 11] hG hS (env := [(0, .sl (l.map Home.av)), (1, .fn (.func 66) [] []), (2, .fn (.func 67) [] []), (9, .sl (l.map Home.av)), (10, .int .i64 ((l.length : Nat) : Int)), (11, .int .i64 (((pre ++ [x]).length : Nat) : Int))]) (own := [.box none 68 [.int .i64 x.Account, .int .i64 x.Land]]) (obs := [IntKind.i64.wrap (((pre.length : Nat) : Int) + 1) = (((pre ++ [x]).length : Nat) : Int)]) (by kernel_rfl) ((next_len hl hn)) fun ac wd hS => ?_
          refine runs_inLoop ?_
          exact ihx _ _ (pre ++ [x])  (next_eq hl) (rise_some hp hr hb2 hb3) (hS.sel [] [0, 1, 2, 9, 10, 11] (by kernel_rfl))
      · skip
        refine drw [(2, .av (.bool (homeOK x))), (4, .dec true)] [0, 1, 2, 9, 10, 11, 34] hG hS (env := [(0, .sl (l.map Home.av)), (1, .fn (.func 66) [] []), (2, .fn (.func 67) [] []), (9, .sl (l.map Home.av)), (10, .int .i64 ((l.length : Nat) : Int)), (11, .int .i64 ((pre.length : Nat) : Int)), (34, .bool true)]) (own := [.box none 68 [.int .i64 x.Account, .int .i64 x.Land]]) (obs := [CallA Tryz.prog GT 66 [Home.av x] (.bool (homeOK x)), (!homeOK x) = true]) (by kernel_rfl) (by kernel_rfl) (⟨(homeOK_ok _), by rw [hb2]; rfl⟩) fun ac wd hS => ?_
        refine cond_yes hS (c := true) (by kernel_rfl) rfl ?_
        refine runs_seq ?_
        refine reg [] [6] hG hS (env := [(6, .bool false)]) (own := [.box none 68 [.int .i64 x.Account, .int .i64 x.Land]]) (obs := []) (by kernel_rfl) (trivial) fun ac wd hS => ?_
        rw [rise_no1 hr hb2]
        exact retz Tryz.func65 rfl hB hBd hS (by kernel_rfl) rfl
def codeB (c : Code) : Bool := (decide (((c.Laws.length : Nat) : Int) ≤ 40) && risingB lawOK lawCmp none c.Laws) && (decide (((c.Stills.length : Nat) : Int) ≤ 20) && risingB stillOK stillCmp none c.Stills)
def homesB (l : List Home) : Bool := !decide (((l.length : Nat) : Int) > 60) && risingB homeOK homeCmp none l
def checkI (c : Code) (l : List Home) : Int := if codeB c then (if homesB l then 0 else 41) else 40
def greatB (c : Code) (h : List Home) (l : List Report) : Bool := decide (((c.Laws.length : Nat) : Int) > 60) || decide (((c.Stills.length : Nat) : Int) > 40) || decide (((h.length : Nat) : Int) > 80) || decide (((l.length : Nat) : Int) > 80)
theorem check_ok (c : Code) (homes : List Home) (hc1 : c.Laws.length ≤ 65536) (hc2 : c.Stills.length ≤ 65536) (hh : homes.length ≤ 65536) : CallA Tryz.prog GT 19 [Code.av c, .sl (homes.map Home.av)] (.int .i64 (checkI c homes)) := by
  refine callA_of Tryz.func19 rfl (by simp [Tryz.f19]) rfl fun B ac hB hBd hG hS => ?_
  refine runs_seq ?_
  refine reg [] [1, 2] hG hS (env := [(1, .sl (homes.map Home.av)), (2, .box 0 0)]) (own := [.box none 25 [.sl (c.Laws.map Law.av), .sl (c.Stills.map Still.av)]]) (obs := []) (by kernel_rfl) (trivial) fun ac wd hS => ?_
  refine runs_seq ?_
  rcases Bool.eq_false_or_eq_true (decide (((c.Laws.length : Nat) : Int) ≤ 40)) with hb1 | hb1
  · skip
    refine reg [(2, .is ((c.Laws.length : Nat) : Int)), (4, .dec true), (7, .av (.bool (risingB lawOK lawCmp none c.Laws)))] [1, 2, 5] hG hS (env := [(1, .sl (homes.map Home.av)), (2, .box 0 0), (5, .bool (risingB lawOK lawCmp none c.Laws))]) (own := [.box none 25 [.sl (c.Laws.map Law.av), .sl (c.Stills.map Still.av)]]) (obs := [((c.Laws.map Law.av).length : Int) = ((c.Laws.length : Nat) : Int), decide (((c.Laws.length : Nat) : Int) ≤ 40) = true, CallA Tryz.prog GT 54 [.sl (c.Laws.map Law.av), .fn (.func 55) [] [], .fn (.func 58) [] []] (.bool (risingB lawOK lawCmp none c.Laws))]) (by kernel_rfl) (⟨len_map, hb1, (rising_ok54 _ hc1)⟩) fun ac wd hS => ?_
    refine runs_seq ?_
    rcases Bool.eq_false_or_eq_true (decide (((c.Stills.length : Nat) : Int) ≤ 20)) with hb2 | hb2
    · skip
      refine reg [(2, .is ((c.Stills.length : Nat) : Int)), (4, .dec true), (7, .av (.bool (risingB stillOK stillCmp none c.Stills)))] [1, 5, 6] hG hS (env := [(1, .sl (homes.map Home.av)), (5, .bool (risingB lawOK lawCmp none c.Laws)), (6, .bool (risingB stillOK stillCmp none c.Stills))]) (own := [.box none 25 [.sl (c.Laws.map Law.av), .sl (c.Stills.map Still.av)]]) (obs := [((c.Stills.map Still.av).length : Int) = ((c.Stills.length : Nat) : Int), decide (((c.Stills.length : Nat) : Int) ≤ 20) = true, CallA Tryz.prog GT 62 [.sl (c.Stills.map Still.av), .fn (.func 63) [] [], .fn (.func 64) [] []] (.bool (risingB stillOK stillCmp none c.Stills))]) (by kernel_rfl) (⟨len_map, hb2, (rising_ok62 _ hc2)⟩) fun ac wd hS => ?_
      refine runs_seq ?_
      refine runs_seq ?_
      rcases Bool.eq_false_or_eq_true (risingB lawOK lawCmp none c.Laws) with hb3 | hb3
      · skip
        rcases Bool.eq_false_or_eq_true (risingB stillOK stillCmp none c.Stills) with hb4 | hb4
        · skip
          refine reg [(2, .dec false), (5, .dec false)] [1, 30] hG hS (env := [(1, .sl (homes.map Home.av)), (30, .bool false)]) (own := [.box none 25 [.sl (c.Laws.map Law.av), .sl (c.Stills.map Still.av)]]) (obs := [(!risingB lawOK lawCmp none c.Laws) = false, (!risingB stillOK stillCmp none c.Stills) = false]) (by kernel_rfl) (⟨by rw [hb3]; rfl, by rw [hb4]; rfl⟩) fun ac wd hS => ?_
          refine cond_no hS (c := false) (by kernel_rfl) rfl ?_
          refine runs_skip ?_
          refine runs_seq ?_
          refine runs_seq ?_
          rcases Bool.eq_false_or_eq_true (decide (((homes.length : Nat) : Int) > 60)) with hb5 | hb5
          · skip
            refine reg [(1, .is ((homes.length : Nat) : Int)), (3, .dec true)] [38] hG hS (env := [(38, .bool true)]) (own := [.box none 25 [.sl (c.Laws.map Law.av), .sl (c.Stills.map Still.av)]]) (obs := [((homes.map Home.av).length : Int) = ((homes.length : Nat) : Int), decide (((homes.length : Nat) : Int) > 60) = true]) (by kernel_rfl) (⟨len_map, hb5⟩) fun ac wd hS => ?_
            refine cond_yes hS (c := true) (by kernel_rfl) rfl ?_
            refine runs_seq ?_
            refine reg [] [4] hG hS (env := [(4, .int .i64 41)]) (own := [.box none 25 [.sl (c.Laws.map Law.av), .sl (c.Stills.map Still.av)]]) (obs := []) (by kernel_rfl) (trivial) fun ac wd hS => ?_
            rw [show (.int .i64 (checkI c homes) : AV) = .int .i64 41 from by ((try simp only [decide_eq_true_eq, decide_eq_false_iff_not, beq_iff_eq, beq_eq_false_iff_ne] at hb1); (try simp only [decide_eq_true_eq, decide_eq_false_iff_not, beq_iff_eq, beq_eq_false_iff_ne] at hb2); (try simp only [decide_eq_true_eq, decide_eq_false_iff_not, beq_iff_eq, beq_eq_false_iff_ne] at hb3); (try simp only [decide_eq_true_eq, decide_eq_false_iff_not, beq_iff_eq, beq_eq_false_iff_ne] at hb4); (try simp only [decide_eq_true_eq, decide_eq_false_iff_not, beq_iff_eq, beq_eq_false_iff_ne] at hb5); first | (simp [checkI, codeB, homesB, hb1, hb2, hb3, hb4, hb5]; done) | (simp [checkI, codeB, homesB, hb1, hb2, hb3, hb4, hb5]; omega) | (congr 1; simp only [checkI, codeB, homesB]; grind))]
            exact retz Tryz.func19 rfl hB hBd hS (by kernel_rfl) rfl
          · skip
            rcases Bool.eq_false_or_eq_true (risingB homeOK homeCmp none homes) with hb6 | hb6
            · skip
              refine reg [(1, .is ((homes.length : Nat) : Int)), (3, .dec false), (5, .av (.bool (risingB homeOK homeCmp none homes))), (7, .dec false)] [38] hG hS (env := [(38, .bool false)]) (own := [.box none 25 [.sl (c.Laws.map Law.av), .sl (c.Stills.map Still.av)]]) (obs := [((homes.map Home.av).length : Int) = ((homes.length : Nat) : Int), decide (((homes.length : Nat) : Int) > 60) = false, CallA Tryz.prog GT 65 [.sl (homes.map Home.av), .fn (.func 66) [] [], .fn (.func 67) [] []] (.bool (risingB homeOK homeCmp none homes)), (!risingB homeOK homeCmp none homes) = false]) (by kernel_rfl) (⟨len_map, hb5, (rising_ok65 _ hh), by rw [hb6]; rfl⟩) fun ac wd hS => ?_
              refine cond_no hS (c := false) (by kernel_rfl) rfl ?_
              refine runs_skip ?_
              refine runs_seq ?_
              refine reg [] [4] hG hS (env := [(4, .int .i64 0)]) (own := [.box none 25 [.sl (c.Laws.map Law.av), .sl (c.Stills.map Still.av)]]) (obs := []) (by kernel_rfl) (trivial) fun ac wd hS => ?_
              rw [show (.int .i64 (checkI c homes) : AV) = .int .i64 0 from by ((try simp only [decide_eq_true_eq, decide_eq_false_iff_not, beq_iff_eq, beq_eq_false_iff_ne] at hb1); (try simp only [decide_eq_true_eq, decide_eq_false_iff_not, beq_iff_eq, beq_eq_false_iff_ne] at hb2); (try simp only [decide_eq_true_eq, decide_eq_false_iff_not, beq_iff_eq, beq_eq_false_iff_ne] at hb3); (try simp only [decide_eq_true_eq, decide_eq_false_iff_not, beq_iff_eq, beq_eq_false_iff_ne] at hb4); (try simp only [decide_eq_true_eq, decide_eq_false_iff_not, beq_iff_eq, beq_eq_false_iff_ne] at hb5); (try simp only [decide_eq_true_eq, decide_eq_false_iff_not, beq_iff_eq, beq_eq_false_iff_ne] at hb6); first | (simp [checkI, codeB, homesB, hb1, hb2, hb3, hb4, hb5, hb6]; done) | (simp [checkI, codeB, homesB, hb1, hb2, hb3, hb4, hb5, hb6]; omega) | (congr 1; simp only [checkI, codeB, homesB]; grind))]
              exact retz Tryz.func19 rfl hB hBd hS (by kernel_rfl) rfl
            · skip
              refine reg [(1, .is ((homes.length : Nat) : Int)), (3, .dec false), (5, .av (.bool (risingB homeOK homeCmp none homes))), (7, .dec true)] [38] hG hS (env := [(38, .bool true)]) (own := [.box none 25 [.sl (c.Laws.map Law.av), .sl (c.Stills.map Still.av)]]) (obs := [((homes.map Home.av).length : Int) = ((homes.length : Nat) : Int), decide (((homes.length : Nat) : Int) > 60) = false, CallA Tryz.prog GT 65 [.sl (homes.map Home.av), .fn (.func 66) [] [], .fn (.func 67) [] []] (.bool (risingB homeOK homeCmp none homes)), (!risingB homeOK homeCmp none homes) = true]) (by kernel_rfl) (⟨len_map, hb5, (rising_ok65 _ hh), by rw [hb6]; rfl⟩) fun ac wd hS => ?_
              refine cond_yes hS (c := true) (by kernel_rfl) rfl ?_
              refine runs_seq ?_
              refine reg [] [4] hG hS (env := [(4, .int .i64 41)]) (own := [.box none 25 [.sl (c.Laws.map Law.av), .sl (c.Stills.map Still.av)]]) (obs := []) (by kernel_rfl) (trivial) fun ac wd hS => ?_
              rw [show (.int .i64 (checkI c homes) : AV) = .int .i64 41 from by ((try simp only [decide_eq_true_eq, decide_eq_false_iff_not, beq_iff_eq, beq_eq_false_iff_ne] at hb1); (try simp only [decide_eq_true_eq, decide_eq_false_iff_not, beq_iff_eq, beq_eq_false_iff_ne] at hb2); (try simp only [decide_eq_true_eq, decide_eq_false_iff_not, beq_iff_eq, beq_eq_false_iff_ne] at hb3); (try simp only [decide_eq_true_eq, decide_eq_false_iff_not, beq_iff_eq, beq_eq_false_iff_ne] at hb4); (try simp only [decide_eq_true_eq, decide_eq_false_iff_not, beq_iff_eq, beq_eq_false_iff_ne] at hb5); (try simp only [decide_eq_true_eq, decide_eq_false_iff_not, beq_iff_eq, beq_eq_false_iff_ne] at hb6); first | (simp [checkI, codeB, homesB, hb1, hb2, hb3, hb4, hb5, hb6]; done) | (simp [checkI, codeB, homesB, hb1, hb2, hb3, hb4, hb5, hb6]; omega) | (congr 1; simp only [checkI, codeB, homesB]; grind))]
              exact retz Tryz.func19 rfl hB hBd hS (by kernel_rfl) rfl
        · skip
          refine reg [(2, .dec false), (5, .dec true)] [1, 30] hG hS (env := [(1, .sl (homes.map Home.av)), (30, .bool true)]) (own := [.box none 25 [.sl (c.Laws.map Law.av), .sl (c.Stills.map Still.av)]]) (obs := [(!risingB lawOK lawCmp none c.Laws) = false, (!risingB stillOK stillCmp none c.Stills) = true]) (by kernel_rfl) (⟨by rw [hb3]; rfl, by rw [hb4]; rfl⟩) fun ac wd hS => ?_
          refine cond_yes hS (c := true) (by kernel_rfl) rfl ?_
          refine runs_seq ?_
          refine reg [] [4] hG hS (env := [(4, .int .i64 40)]) (own := [.box none 25 [.sl (c.Laws.map Law.av), .sl (c.Stills.map Still.av)]]) (obs := []) (by kernel_rfl) (trivial) fun ac wd hS => ?_
          rw [show (.int .i64 (checkI c homes) : AV) = .int .i64 40 from by ((try simp only [decide_eq_true_eq, decide_eq_false_iff_not, beq_iff_eq, beq_eq_false_iff_ne] at hb1); (try simp only [decide_eq_true_eq, decide_eq_false_iff_not, beq_iff_eq, beq_eq_false_iff_ne] at hb2); (try simp only [decide_eq_true_eq, decide_eq_false_iff_not, beq_iff_eq, beq_eq_false_iff_ne] at hb3); (try simp only [decide_eq_true_eq, decide_eq_false_iff_not, beq_iff_eq, beq_eq_false_iff_ne] at hb4); first | (simp [checkI, codeB, homesB, hb1, hb2, hb3, hb4]; done) | (simp [checkI, codeB, homesB, hb1, hb2, hb3, hb4]; omega) | (congr 1; simp only [checkI, codeB, homesB]; grind))]
          exact retz Tryz.func19 rfl hB hBd hS (by kernel_rfl) rfl
      · skip
        refine reg [(2, .dec true)] [1, 30] hG hS (env := [(1, .sl (homes.map Home.av)), (30, .bool true)]) (own := [.box none 25 [.sl (c.Laws.map Law.av), .sl (c.Stills.map Still.av)]]) (obs := [(!risingB lawOK lawCmp none c.Laws) = true]) (by kernel_rfl) (by rw [hb3]; rfl) fun ac wd hS => ?_
        refine cond_yes hS (c := true) (by kernel_rfl) rfl ?_
        refine runs_seq ?_
        refine reg [] [4] hG hS (env := [(4, .int .i64 40)]) (own := [.box none 25 [.sl (c.Laws.map Law.av), .sl (c.Stills.map Still.av)]]) (obs := []) (by kernel_rfl) (trivial) fun ac wd hS => ?_
        rw [show (.int .i64 (checkI c homes) : AV) = .int .i64 40 from by ((try simp only [decide_eq_true_eq, decide_eq_false_iff_not, beq_iff_eq, beq_eq_false_iff_ne] at hb1); (try simp only [decide_eq_true_eq, decide_eq_false_iff_not, beq_iff_eq, beq_eq_false_iff_ne] at hb2); (try simp only [decide_eq_true_eq, decide_eq_false_iff_not, beq_iff_eq, beq_eq_false_iff_ne] at hb3); first | (simp [checkI, codeB, homesB, hb1, hb2, hb3]; done) | (simp [checkI, codeB, homesB, hb1, hb2, hb3]; omega) | (congr 1; simp only [checkI, codeB, homesB]; grind))]
        exact retz Tryz.func19 rfl hB hBd hS (by kernel_rfl) rfl
    · skip
      refine reg [(2, .is ((c.Stills.length : Nat) : Int)), (4, .dec false)] [1, 5, 6] hG hS (env := [(1, .sl (homes.map Home.av)), (5, .bool (risingB lawOK lawCmp none c.Laws)), (6, .bool false)]) (own := [.box none 25 [.sl (c.Laws.map Law.av), .sl (c.Stills.map Still.av)]]) (obs := [((c.Stills.map Still.av).length : Int) = ((c.Stills.length : Nat) : Int), decide (((c.Stills.length : Nat) : Int) ≤ 20) = false]) (by kernel_rfl) (⟨len_map, hb2⟩) fun ac wd hS => ?_
      refine runs_seq ?_
      refine runs_seq ?_
      rcases Bool.eq_false_or_eq_true (risingB lawOK lawCmp none c.Laws) with hb7 | hb7
      · skip
        refine reg [(2, .dec false)] [1, 30] hG hS (env := [(1, .sl (homes.map Home.av)), (30, .bool true)]) (own := [.box none 25 [.sl (c.Laws.map Law.av), .sl (c.Stills.map Still.av)]]) (obs := [(!risingB lawOK lawCmp none c.Laws) = false]) (by kernel_rfl) (by rw [hb7]; rfl) fun ac wd hS => ?_
        refine cond_yes hS (c := true) (by kernel_rfl) rfl ?_
        refine runs_seq ?_
        refine reg [] [4] hG hS (env := [(4, .int .i64 40)]) (own := [.box none 25 [.sl (c.Laws.map Law.av), .sl (c.Stills.map Still.av)]]) (obs := []) (by kernel_rfl) (trivial) fun ac wd hS => ?_
        rw [show (.int .i64 (checkI c homes) : AV) = .int .i64 40 from by ((try simp only [decide_eq_true_eq, decide_eq_false_iff_not, beq_iff_eq, beq_eq_false_iff_ne] at hb1); (try simp only [decide_eq_true_eq, decide_eq_false_iff_not, beq_iff_eq, beq_eq_false_iff_ne] at hb2); (try simp only [decide_eq_true_eq, decide_eq_false_iff_not, beq_iff_eq, beq_eq_false_iff_ne] at hb7); first | (simp [checkI, codeB, homesB, hb1, hb2, hb7]; done) | (simp [checkI, codeB, homesB, hb1, hb2, hb7]; omega) | (congr 1; simp only [checkI, codeB, homesB]; grind))]
        exact retz Tryz.func19 rfl hB hBd hS (by kernel_rfl) rfl
      · skip
        refine reg [(2, .dec true)] [1, 30] hG hS (env := [(1, .sl (homes.map Home.av)), (30, .bool true)]) (own := [.box none 25 [.sl (c.Laws.map Law.av), .sl (c.Stills.map Still.av)]]) (obs := [(!risingB lawOK lawCmp none c.Laws) = true]) (by kernel_rfl) (by rw [hb7]; rfl) fun ac wd hS => ?_
        refine cond_yes hS (c := true) (by kernel_rfl) rfl ?_
        refine runs_seq ?_
        refine reg [] [4] hG hS (env := [(4, .int .i64 40)]) (own := [.box none 25 [.sl (c.Laws.map Law.av), .sl (c.Stills.map Still.av)]]) (obs := []) (by kernel_rfl) (trivial) fun ac wd hS => ?_
        rw [show (.int .i64 (checkI c homes) : AV) = .int .i64 40 from by ((try simp only [decide_eq_true_eq, decide_eq_false_iff_not, beq_iff_eq, beq_eq_false_iff_ne] at hb1); (try simp only [decide_eq_true_eq, decide_eq_false_iff_not, beq_iff_eq, beq_eq_false_iff_ne] at hb2); (try simp only [decide_eq_true_eq, decide_eq_false_iff_not, beq_iff_eq, beq_eq_false_iff_ne] at hb7); first | (simp [checkI, codeB, homesB, hb1, hb2, hb7]; done) | (simp [checkI, codeB, homesB, hb1, hb2, hb7]; omega) | (congr 1; simp only [checkI, codeB, homesB]; grind))]
        exact retz Tryz.func19 rfl hB hBd hS (by kernel_rfl) rfl
  · skip
    refine reg [(2, .is ((c.Laws.length : Nat) : Int)), (4, .dec false)] [1, 2, 5] hG hS (env := [(1, .sl (homes.map Home.av)), (2, .box 0 0), (5, .bool false)]) (own := [.box none 25 [.sl (c.Laws.map Law.av), .sl (c.Stills.map Still.av)]]) (obs := [((c.Laws.map Law.av).length : Int) = ((c.Laws.length : Nat) : Int), decide (((c.Laws.length : Nat) : Int) ≤ 40) = false]) (by kernel_rfl) (⟨len_map, hb1⟩) fun ac wd hS => ?_
    refine runs_seq ?_
    rcases Bool.eq_false_or_eq_true (decide (((c.Stills.length : Nat) : Int) ≤ 20)) with hb8 | hb8
    · skip
      refine reg [(2, .is ((c.Stills.length : Nat) : Int)), (4, .dec true), (7, .av (.bool (risingB stillOK stillCmp none c.Stills)))] [1, 5, 6] hG hS (env := [(1, .sl (homes.map Home.av)), (5, .bool false), (6, .bool (risingB stillOK stillCmp none c.Stills))]) (own := [.box none 25 [.sl (c.Laws.map Law.av), .sl (c.Stills.map Still.av)]]) (obs := [((c.Stills.map Still.av).length : Int) = ((c.Stills.length : Nat) : Int), decide (((c.Stills.length : Nat) : Int) ≤ 20) = true, CallA Tryz.prog GT 62 [.sl (c.Stills.map Still.av), .fn (.func 63) [] [], .fn (.func 64) [] []] (.bool (risingB stillOK stillCmp none c.Stills))]) (by kernel_rfl) (⟨len_map, hb8, (rising_ok62 _ hc2)⟩) fun ac wd hS => ?_
      refine runs_seq ?_
      refine runs_seq ?_
      refine reg [] [1, 30] hG hS (env := [(1, .sl (homes.map Home.av)), (30, .bool true)]) (own := [.box none 25 [.sl (c.Laws.map Law.av), .sl (c.Stills.map Still.av)]]) (obs := []) (by kernel_rfl) (trivial) fun ac wd hS => ?_
      refine cond_yes hS (c := true) (by kernel_rfl) rfl ?_
      refine runs_seq ?_
      refine reg [] [4] hG hS (env := [(4, .int .i64 40)]) (own := [.box none 25 [.sl (c.Laws.map Law.av), .sl (c.Stills.map Still.av)]]) (obs := []) (by kernel_rfl) (trivial) fun ac wd hS => ?_
      rw [show (.int .i64 (checkI c homes) : AV) = .int .i64 40 from by ((try simp only [decide_eq_true_eq, decide_eq_false_iff_not, beq_iff_eq, beq_eq_false_iff_ne] at hb1); (try simp only [decide_eq_true_eq, decide_eq_false_iff_not, beq_iff_eq, beq_eq_false_iff_ne] at hb8); first | (simp [checkI, codeB, homesB, hb1, hb8]; done) | (simp [checkI, codeB, homesB, hb1, hb8]; omega) | (congr 1; simp only [checkI, codeB, homesB]; grind))]
      exact retz Tryz.func19 rfl hB hBd hS (by kernel_rfl) rfl
    · skip
      refine reg [(2, .is ((c.Stills.length : Nat) : Int)), (4, .dec false)] [1, 5, 6] hG hS (env := [(1, .sl (homes.map Home.av)), (5, .bool false), (6, .bool false)]) (own := [.box none 25 [.sl (c.Laws.map Law.av), .sl (c.Stills.map Still.av)]]) (obs := [((c.Stills.map Still.av).length : Int) = ((c.Stills.length : Nat) : Int), decide (((c.Stills.length : Nat) : Int) ≤ 20) = false]) (by kernel_rfl) (⟨len_map, hb8⟩) fun ac wd hS => ?_
      refine runs_seq ?_
      refine runs_seq ?_
      refine reg [] [1, 30] hG hS (env := [(1, .sl (homes.map Home.av)), (30, .bool true)]) (own := [.box none 25 [.sl (c.Laws.map Law.av), .sl (c.Stills.map Still.av)]]) (obs := []) (by kernel_rfl) (trivial) fun ac wd hS => ?_
      refine cond_yes hS (c := true) (by kernel_rfl) rfl ?_
      refine runs_seq ?_
      refine reg [] [4] hG hS (env := [(4, .int .i64 40)]) (own := [.box none 25 [.sl (c.Laws.map Law.av), .sl (c.Stills.map Still.av)]]) (obs := []) (by kernel_rfl) (trivial) fun ac wd hS => ?_
      rw [show (.int .i64 (checkI c homes) : AV) = .int .i64 40 from by ((try simp only [decide_eq_true_eq, decide_eq_false_iff_not, beq_iff_eq, beq_eq_false_iff_ne] at hb1); (try simp only [decide_eq_true_eq, decide_eq_false_iff_not, beq_iff_eq, beq_eq_false_iff_ne] at hb8); first | (simp [checkI, codeB, homesB, hb1, hb8]; done) | (simp [checkI, codeB, homesB, hb1, hb8]; omega) | (congr 1; simp only [checkI, codeB, homesB]; grind))]
      exact retz Tryz.func19 rfl hB hBd hS (by kernel_rfl) rfl
theorem great_ok (c : Code) (homes : List Home) (l : List Report) : CallA Tryz.prog GT 13 [Code.av c, .sl (homes.map Home.av), .sl (l.map Report.av)] (.bool (greatB c homes l)) := by
  refine callA_of Tryz.func13 rfl (by simp [Tryz.f13]) rfl fun B ac hB hBd hG hS => ?_
  refine runs_seq ?_
  refine reg [] [1, 2, 3] hG hS (env := [(1, .sl (homes.map Home.av)), (2, .sl (l.map Report.av)), (3, .box 0 0)]) (own := [.box none 25 [.sl (c.Laws.map Law.av), .sl (c.Stills.map Still.av)]]) (obs := []) (by kernel_rfl) (trivial) fun ac wd hS => ?_
  refine runs_seq ?_
  rcases Bool.eq_false_or_eq_true (decide (((c.Laws.length : Nat) : Int) > 60)) with hb1 | hb1
  · skip
    refine reg [(2, .is ((c.Laws.length : Nat) : Int)), (4, .dec true)] [6] hG hS (env := [(6, .bool true)]) (own := [.box none 25 [.sl (c.Laws.map Law.av), .sl (c.Stills.map Still.av)]]) (obs := [((c.Laws.map Law.av).length : Int) = ((c.Laws.length : Nat) : Int), decide (((c.Laws.length : Nat) : Int) > 60) = true]) (by kernel_rfl) (⟨len_map, hb1⟩) fun ac wd hS => ?_
    rw [show (.bool (greatB c homes l) : AV) = .bool true from by ((try simp only [decide_eq_true_eq, decide_eq_false_iff_not, beq_iff_eq, beq_eq_false_iff_ne] at hb1); first | (simp [greatB, hb1]; done) | (simp [greatB, hb1]; omega) | (congr 1; simp only [greatB]; grind))]
    exact retz Tryz.func13 rfl hB hBd hS (by kernel_rfl) rfl
  · skip
    rcases Bool.eq_false_or_eq_true (decide (((c.Stills.length : Nat) : Int) > 40)) with hb2 | hb2
    · skip
      refine reg [(2, .is ((c.Laws.length : Nat) : Int)), (4, .dec false), (7, .is ((c.Stills.length : Nat) : Int)), (10, .dec true)] [6] hG hS (env := [(6, .bool true)]) (own := [.box none 25 [.sl (c.Laws.map Law.av), .sl (c.Stills.map Still.av)]]) (obs := [((c.Laws.map Law.av).length : Int) = ((c.Laws.length : Nat) : Int), decide (((c.Laws.length : Nat) : Int) > 60) = false, ((c.Stills.map Still.av).length : Int) = ((c.Stills.length : Nat) : Int), decide (((c.Stills.length : Nat) : Int) > 40) = true]) (by kernel_rfl) (⟨len_map, hb1, len_map, hb2⟩) fun ac wd hS => ?_
      rw [show (.bool (greatB c homes l) : AV) = .bool true from by ((try simp only [decide_eq_true_eq, decide_eq_false_iff_not, beq_iff_eq, beq_eq_false_iff_ne] at hb1); (try simp only [decide_eq_true_eq, decide_eq_false_iff_not, beq_iff_eq, beq_eq_false_iff_ne] at hb2); first | (simp [greatB, hb1, hb2]; done) | (simp [greatB, hb1, hb2]; omega) | (congr 1; simp only [greatB]; grind))]
      exact retz Tryz.func13 rfl hB hBd hS (by kernel_rfl) rfl
    · skip
      rcases Bool.eq_false_or_eq_true (decide (((homes.length : Nat) : Int) > 80)) with hb3 | hb3
      · skip
        refine reg [(2, .is ((c.Laws.length : Nat) : Int)), (4, .dec false), (7, .is ((c.Stills.length : Nat) : Int)), (10, .dec false), (12, .is ((homes.length : Nat) : Int)), (15, .dec true)] [6] hG hS (env := [(6, .bool true)]) (own := [.box none 25 [.sl (c.Laws.map Law.av), .sl (c.Stills.map Still.av)]]) (obs := [((c.Laws.map Law.av).length : Int) = ((c.Laws.length : Nat) : Int), decide (((c.Laws.length : Nat) : Int) > 60) = false, ((c.Stills.map Still.av).length : Int) = ((c.Stills.length : Nat) : Int), decide (((c.Stills.length : Nat) : Int) > 40) = false, ((homes.map Home.av).length : Int) = ((homes.length : Nat) : Int), decide (((homes.length : Nat) : Int) > 80) = true]) (by kernel_rfl) (⟨len_map, hb1, len_map, hb2, len_map, hb3⟩) fun ac wd hS => ?_
        rw [show (.bool (greatB c homes l) : AV) = .bool true from by ((try simp only [decide_eq_true_eq, decide_eq_false_iff_not, beq_iff_eq, beq_eq_false_iff_ne] at hb1); (try simp only [decide_eq_true_eq, decide_eq_false_iff_not, beq_iff_eq, beq_eq_false_iff_ne] at hb2); (try simp only [decide_eq_true_eq, decide_eq_false_iff_not, beq_iff_eq, beq_eq_false_iff_ne] at hb3); first | (simp [greatB, hb1, hb2, hb3]; done) | (simp [greatB, hb1, hb2, hb3]; omega) | (congr 1; simp only [greatB]; grind))]
        exact retz Tryz.func13 rfl hB hBd hS (by kernel_rfl) rfl
      · skip
        refine reg [(2, .is ((c.Laws.length : Nat) : Int)), (4, .dec false), (7, .is ((c.Stills.length : Nat) : Int)), (10, .dec false), (12, .is ((homes.length : Nat) : Int)), (15, .dec false), (17, .is ((l.length : Nat) : Int))] [6] hG hS (env := [(6, .bool (decide (((l.length : Nat) : Int) > 80)))]) (own := [.box none 25 [.sl (c.Laws.map Law.av), .sl (c.Stills.map Still.av)]]) (obs := [((c.Laws.map Law.av).length : Int) = ((c.Laws.length : Nat) : Int), decide (((c.Laws.length : Nat) : Int) > 60) = false, ((c.Stills.map Still.av).length : Int) = ((c.Stills.length : Nat) : Int), decide (((c.Stills.length : Nat) : Int) > 40) = false, ((homes.map Home.av).length : Int) = ((homes.length : Nat) : Int), decide (((homes.length : Nat) : Int) > 80) = false, ((l.map Report.av).length : Int) = ((l.length : Nat) : Int)]) (by kernel_rfl) (⟨len_map, hb1, len_map, hb2, len_map, hb3, len_map⟩) fun ac wd hS => ?_
        rw [show (.bool (greatB c homes l) : AV) = .bool (decide (((l.length : Nat) : Int) > 80)) from by ((try simp only [decide_eq_true_eq, decide_eq_false_iff_not, beq_iff_eq, beq_eq_false_iff_ne] at hb1); (try simp only [decide_eq_true_eq, decide_eq_false_iff_not, beq_iff_eq, beq_eq_false_iff_ne] at hb2); (try simp only [decide_eq_true_eq, decide_eq_false_iff_not, beq_iff_eq, beq_eq_false_iff_ne] at hb3); first | (simp [greatB, hb1, hb2, hb3]; done) | (simp [greatB, hb1, hb2, hb3]; omega) | (congr 1; simp only [greatB]; grind))]
        exact retz Tryz.func13 rfl hB hBd hS (by kernel_rfl) rfl
theorem neq_len {α β : Type} {a : List α} {b : List β} (h : (((a.length : Nat) : Int) != ((b.length : Nat) : Int)) = true) : a.length ≠ b.length := by
  intro e; rw [e] at h; simp at h
theorem eq_len {α β : Type} {a : List α} {b : List β} (h : (((a.length : Nat) : Int) != ((b.length : Nat) : Int)) = false) : b.length = a.length := by
  simp at h; omega
theorem cons_of {α β : Type} {x : α} {rest : List α} {rb : List β} (h : rb.length = (x :: rest).length) : ∃ y rb', rb = y :: rb' ∧ rb'.length = rest.length := by
  cases rb with
  | nil => simp at h
  | cons y r => exact ⟨y, r, rfl, by simpa using h⟩
theorem same_end {α : Type} {a b pre rb : List α} (ha : a = pre ++ []) (hb : b = pre ++ rb) (hl : rb.length = ([] : List α).length) : a = b := by
  have : rb = [] := List.length_eq_zero_iff.1 (by simpa using hl)
  subst this; rw [ha, hb]
theorem same_not {α : Type} {a b pre rest rb : List α} {x y : α} (ha : a = pre ++ x :: rest) (hb : b = pre ++ y :: rb) (h : x ≠ y) : a ≠ b := by
  intro e; rw [ha, hb] at e
  have := List.append_cancel_left e
  injection this with h1; exact h h1
theorem ne_len {α : Type} {a b : List α} (h : a.length ≠ b.length) : a ≠ b := fun e => h (by rw [e])
theorem ints_ne {x y : Int} (h : (x != y) = true) : x ≠ y := by simpa using h
theorem ints_eq {x y : Int} (h : (x != y) = false) : x = y := by simpa using h
theorem Report_dec {p q : Report} : (([p.Id, p.Source, p.Account, p.Made, p.About, U8.i p.Kind, p.Cents, p.Of] : List Int) = [q.Id, q.Source, q.Account, q.Made, q.About, U8.i q.Kind, q.Cents, q.Of]) ↔ p = q := by
  constructor
  · intro h; cases p; cases q; simp only [List.cons.injEq, U8.inj, and_true] at h; simp [h]
  · intro h; rw [h]
theorem Law_dec {p q : Law} : (([p.Land, U8.i p.Kind, U8.i p.Base, p.Keep] : List Int) = [q.Land, U8.i q.Kind, U8.i q.Base, q.Keep]) ↔ p = q := by
  constructor
  · intro h; cases p; cases q; simp only [List.cons.injEq, U8.inj, and_true] at h; simp [h]
  · intro h; rw [h]
theorem Still_dec {p q : Still} : (([p.Land, p.Days, U8.i p.Means] : List Int) = [q.Land, q.Days, U8.i q.Means]) ↔ p = q := by
  constructor
  · intro h; cases p; cases q; simp only [List.cons.injEq, U8.inj, and_true] at h; simp [h]
  · intro h; rw [h]
theorem Home_dec {p q : Home} : (([p.Account, p.Land] : List Int) = [q.Account, q.Land]) ↔ p = q := by
  constructor
  · intro h; cases p; cases q; simp only [List.cons.injEq, U8.inj, and_true] at h; simp [h]
  · intro h; rw [h]
theorem sameInts_ok (l m : List Int) (hn : l.length ≤ 65536) : CallA Tryz.prog GT 21 [.sl (l.map ia), .sl (m.map ia)] (.bool (decide (l = m))) := by
  refine callA_of Tryz.func21 rfl (by simp [Tryz.f21]) rfl fun B ac hB hBd hG hS => ?_
  refine runs_seq ?_
  refine reg [] [0, 1] hG hS (env := [(0, .sl (l.map ia)), (1, .sl (m.map ia))]) (own := []) (obs := []) (by kernel_rfl) (trivial) fun ac wd hS => ?_
  refine runs_seq ?_
  refine runs_seq ?_
  rcases Bool.eq_false_or_eq_true ((((l.length : Nat) : Int) != ((m.length : Nat) : Int))) with hb1 | hb1
  · skip
    refine reg [(1, .is ((l.length : Nat) : Int)), (3, .is ((m.length : Nat) : Int)), (4, .dec true)] [0, 1, 10] hG hS (env := [(0, .sl (l.map ia)), (1, .sl (m.map ia)), (10, .bool true)]) (own := []) (obs := [((l.map ia).length : Int) = ((l.length : Nat) : Int), ((m.map ia).length : Int) = ((m.length : Nat) : Int), (((l.length : Nat) : Int) != ((m.length : Nat) : Int)) = true]) (by kernel_rfl) (⟨len_map, len_map, hb1⟩) fun ac wd hS => ?_
    refine cond_yes hS (c := true) (by kernel_rfl) rfl ?_
    refine runs_seq ?_
    refine reg [] [4] hG hS (env := [(4, .bool false)]) (own := []) (obs := []) (by kernel_rfl) (trivial) fun ac wd hS => ?_
    rw [show (.bool (decide (l = m)) : AV) = .bool false from by rw [(decide_eq_false (ne_len (neq_len hb1)))]]
    exact retz Tryz.func21 rfl hB hBd hS (by kernel_rfl) rfl
  · skip
    refine reg [(1, .is ((l.length : Nat) : Int)), (3, .is ((m.length : Nat) : Int)), (4, .dec false)] [0, 1, 10] hG hS (env := [(0, .sl (l.map ia)), (1, .sl (m.map ia)), (10, .bool false)]) (own := []) (obs := [((l.map ia).length : Int) = ((l.length : Nat) : Int), ((m.map ia).length : Int) = ((m.length : Nat) : Int), (((l.length : Nat) : Int) != ((m.length : Nat) : Int)) = false]) (by kernel_rfl) (⟨len_map, len_map, hb1⟩) fun ac wd hS => ?_
    refine cond_no hS (c := false) (by kernel_rfl) rfl ?_
    refine runs_skip ?_
    refine runs_seq ?_
    refine runs_seq ?_
    refine reg [] [0, 1, 5] hG hS (env := [(0, .sl (l.map ia)), (1, .sl (m.map ia)), (5, .int .i64 0)]) (own := []) (obs := []) (by kernel_rfl) (trivial) fun ac wd hS => ?_
    refine runs_block ?_
    refine runs_loop ?_
    have hinv : ∃ (pre rest : List Int) (rb : List Int), l = pre ++ rest ∧ (m = pre ++ rb) ∧ (rb.length = rest.length) ∧ Sat B ⟨Tryz.f21.ntmps, [(0, .sl (l.map ia)), (1, .sl (m.map ia)), (5, .int .i64 ((pre.length : Nat) : Int))], []⟩ ac wd := ⟨[], l, m, rfl, rfl, (eq_len hb1), hS.sel [] [0, 1, 5] (by kernel_rfl)⟩
    clear hS
    obtain ⟨pre, rest, rb, ha, hb, hlb, hS⟩ := hinv
    induction rest generalizing pre rb ac wd with
    | nil =>
      refine runs_seq ?_
      refine runs_seq ?_
      refine reg [(2, .is ((l.length : Nat) : Int)), (3, .dec false)] [0, 1, 5, 14] hG hS (env := [(0, .sl (l.map ia)), (1, .sl (m.map ia)), (5, .int .i64 ((pre.length : Nat) : Int)), (14, .bool false)]) (own := []) (obs := [((l.map ia).length : Int) = ((l.length : Nat) : Int), decide (((pre.length : Nat) : Int) < ((l.length : Nat) : Int)) = false]) (by kernel_rfl) (⟨len_map, (lt_no ha)⟩) fun ac wd hS => ?_
      refine cond_no hS (c := false) (by kernel_rfl) rfl ?_
      refine runs_exit (by rfl) ?_
      refine runs_seq ?_
      refine reg [] [4] hG hS (env := [(4, .bool true)]) (own := []) (obs := []) (by kernel_rfl) (trivial) fun ac wd hS => ?_
      rw [show (.bool (decide (l = m)) : AV) = .bool true from by rw [(decide_eq_true (same_end ha hb hlb))]]
      exact retz Tryz.func21 rfl hB hBd hS (by kernel_rfl) rfl
    | cons x rest ihx =>
      obtain ⟨y, rb2, hrb, hlbz⟩ := cons_of hlb
      subst hrb
      refine runs_seq ?_
      refine runs_seq ?_
      refine reg [(2, .is ((l.length : Nat) : Int)), (3, .dec true)] [0, 1, 5, 14] hG hS (env := [(0, .sl (l.map ia)), (1, .sl (m.map ia)), (5, .int .i64 ((pre.length : Nat) : Int)), (14, .bool true)]) (own := []) (obs := [((l.map ia).length : Int) = ((l.length : Nat) : Int), decide (((pre.length : Nat) : Int) < ((l.length : Nat) : Int)) = true]) (by kernel_rfl) (⟨len_map, (lt_yes ha)⟩) fun ac wd hS => ?_
      refine cond_yes hS (c := true) (by kernel_rfl) rfl ?_
      refine runs_skip ?_
      refine runs_seq ?_
      refine runs_block ?_
      refine runs_seq ?_
      rcases Bool.eq_false_or_eq_true ((x != y)) with hb2 | hb2
      · skip
        refine drw [(2, .av (.int .i64 x)), (6, .av (.int .i64 y)), (8, .dec true)] [0, 1, 5, 25] hG hS (env := [(0, .sl (l.map ia)), (1, .sl (m.map ia)), (5, .int .i64 ((pre.length : Nat) : Int)), (25, .bool true)]) (own := []) (obs := [0 ≤ (((pre.length : Nat) : Int) : Int) ∧ (l.map ia : List AV)[(((pre.length : Nat) : Int) : Int).toNat]? = some (.int .i64 x), 0 ≤ (((pre.length : Nat) : Int) : Int) ∧ (m.map ia : List AV)[(((pre.length : Nat) : Int) : Int).toNat]? = some (.int .i64 y), (x != y) = true]) (by kernel_rfl) (by kernel_rfl) (⟨(idx_ok ha), (idx_ok hb), hb2⟩) fun ac wd hS => ?_
        refine cond_yes hS (c := true) (by kernel_rfl) rfl ?_
        refine runs_seq ?_
        refine reg [] [4] hG hS (env := [(4, .bool false)]) (own := []) (obs := []) (by kernel_rfl) (trivial) fun ac wd hS => ?_
        rw [show (.bool (decide (l = m)) : AV) = .bool false from by rw [(decide_eq_false (same_not ha hb (ints_ne hb2)))]]
        exact retz Tryz.func21 rfl hB hBd hS (by kernel_rfl) rfl
      · skip
        refine drw [(2, .av (.int .i64 x)), (6, .av (.int .i64 y)), (8, .dec false)] [0, 1, 5, 25] hG hS (env := [(0, .sl (l.map ia)), (1, .sl (m.map ia)), (5, .int .i64 ((pre.length : Nat) : Int)), (25, .bool false)]) (own := []) (obs := [0 ≤ (((pre.length : Nat) : Int) : Int) ∧ (l.map ia : List AV)[(((pre.length : Nat) : Int) : Int).toNat]? = some (.int .i64 x), 0 ≤ (((pre.length : Nat) : Int) : Int) ∧ (m.map ia : List AV)[(((pre.length : Nat) : Int) : Int).toNat]? = some (.int .i64 y), (x != y) = false]) (by kernel_rfl) (by kernel_rfl) (⟨(idx_ok ha), (idx_ok hb), hb2⟩) fun ac wd hS => ?_
        refine cond_no hS (c := false) (by kernel_rfl) rfl ?_
        refine runs_skip ?_
        refine runs_inBlock ?_
        refine reg [(1, .is (((pre ++ [x]).length : Nat) : Int))] [0, 1, 5] hG hS (env := [(0, .sl (l.map ia)), (1, .sl (m.map ia)), (5, .int .i64 (((pre ++ [x]).length : Nat) : Int))]) (own := []) (obs := [IntKind.i64.wrap (((pre.length : Nat) : Int) + 1) = (((pre ++ [x]).length : Nat) : Int)]) (by kernel_rfl) ((next_len ha hn)) fun ac wd hS => ?_
        refine runs_inLoop ?_
        exact ihx _ _ (pre ++ [x]) rb2 (next_eq ha) (by have e := ints_eq hb2; subst e; rw [hb]; simp) hlbz (hS.sel [] [0, 1, 5] (by kernel_rfl))
theorem sameHomes_ok (l m : List Home) (hn : l.length ≤ 65536) : CallA Tryz.prog GT 23 [.sl (l.map Home.av), .sl (m.map Home.av)] (.bool (decide (l = m))) := by
  refine callA_of Tryz.func23 rfl (by simp [Tryz.f23]) rfl fun B ac hB hBd hG hS => ?_
  refine runs_seq ?_
  refine reg [] [0, 1] hG hS (env := [(0, .sl (l.map Home.av)), (1, .sl (m.map Home.av))]) (own := []) (obs := []) (by kernel_rfl) (trivial) fun ac wd hS => ?_
  refine runs_seq ?_
  refine runs_seq ?_
  rcases Bool.eq_false_or_eq_true ((((l.length : Nat) : Int) != ((m.length : Nat) : Int))) with hb1 | hb1
  · skip
    refine reg [(1, .is ((l.length : Nat) : Int)), (3, .is ((m.length : Nat) : Int)), (4, .dec true)] [0, 1, 10] hG hS (env := [(0, .sl (l.map Home.av)), (1, .sl (m.map Home.av)), (10, .bool true)]) (own := []) (obs := [((l.map Home.av).length : Int) = ((l.length : Nat) : Int), ((m.map Home.av).length : Int) = ((m.length : Nat) : Int), (((l.length : Nat) : Int) != ((m.length : Nat) : Int)) = true]) (by kernel_rfl) (⟨len_map, len_map, hb1⟩) fun ac wd hS => ?_
    refine cond_yes hS (c := true) (by kernel_rfl) rfl ?_
    refine runs_seq ?_
    refine reg [] [4] hG hS (env := [(4, .bool false)]) (own := []) (obs := []) (by kernel_rfl) (trivial) fun ac wd hS => ?_
    rw [show (.bool (decide (l = m)) : AV) = .bool false from by rw [(decide_eq_false (ne_len (neq_len hb1)))]]
    exact retz Tryz.func23 rfl hB hBd hS (by kernel_rfl) rfl
  · skip
    refine reg [(1, .is ((l.length : Nat) : Int)), (3, .is ((m.length : Nat) : Int)), (4, .dec false)] [0, 1, 10] hG hS (env := [(0, .sl (l.map Home.av)), (1, .sl (m.map Home.av)), (10, .bool false)]) (own := []) (obs := [((l.map Home.av).length : Int) = ((l.length : Nat) : Int), ((m.map Home.av).length : Int) = ((m.length : Nat) : Int), (((l.length : Nat) : Int) != ((m.length : Nat) : Int)) = false]) (by kernel_rfl) (⟨len_map, len_map, hb1⟩) fun ac wd hS => ?_
    refine cond_no hS (c := false) (by kernel_rfl) rfl ?_
    refine runs_skip ?_
    refine runs_seq ?_
    refine runs_seq ?_
    refine reg [] [0, 1, 5] hG hS (env := [(0, .sl (l.map Home.av)), (1, .sl (m.map Home.av)), (5, .int .i64 0)]) (own := []) (obs := []) (by kernel_rfl) (trivial) fun ac wd hS => ?_
    refine runs_block ?_
    refine runs_loop ?_
    have hinv : ∃ (pre rest : List Home) (rb : List Home), l = pre ++ rest ∧ (m = pre ++ rb) ∧ (rb.length = rest.length) ∧ Sat B ⟨Tryz.f23.ntmps, [(0, .sl (l.map Home.av)), (1, .sl (m.map Home.av)), (5, .int .i64 ((pre.length : Nat) : Int))], []⟩ ac wd := ⟨[], l, m, rfl, rfl, (eq_len hb1), hS.sel [] [0, 1, 5] (by kernel_rfl)⟩
    clear hS
    obtain ⟨pre, rest, rb, ha, hb, hlb, hS⟩ := hinv
    induction rest generalizing pre rb ac wd with
    | nil =>
      refine runs_seq ?_
      refine runs_seq ?_
      refine reg [(2, .is ((l.length : Nat) : Int)), (3, .dec false)] [0, 1, 5, 14] hG hS (env := [(0, .sl (l.map Home.av)), (1, .sl (m.map Home.av)), (5, .int .i64 ((pre.length : Nat) : Int)), (14, .bool false)]) (own := []) (obs := [((l.map Home.av).length : Int) = ((l.length : Nat) : Int), decide (((pre.length : Nat) : Int) < ((l.length : Nat) : Int)) = false]) (by kernel_rfl) (⟨len_map, (lt_no ha)⟩) fun ac wd hS => ?_
      refine cond_no hS (c := false) (by kernel_rfl) rfl ?_
      refine runs_exit (by rfl) ?_
      refine runs_seq ?_
      refine reg [] [4] hG hS (env := [(4, .bool true)]) (own := []) (obs := []) (by kernel_rfl) (trivial) fun ac wd hS => ?_
      rw [show (.bool (decide (l = m)) : AV) = .bool true from by rw [(decide_eq_true (same_end ha hb hlb))]]
      exact retz Tryz.func23 rfl hB hBd hS (by kernel_rfl) rfl
    | cons x rest ihx =>
      obtain ⟨y, rb2, hrb, hlbz⟩ := cons_of hlb
      subst hrb
      refine runs_seq ?_
      refine runs_seq ?_
      refine reg [(2, .is ((l.length : Nat) : Int)), (3, .dec true)] [0, 1, 5, 14] hG hS (env := [(0, .sl (l.map Home.av)), (1, .sl (m.map Home.av)), (5, .int .i64 ((pre.length : Nat) : Int)), (14, .bool true)]) (own := []) (obs := [((l.map Home.av).length : Int) = ((l.length : Nat) : Int), decide (((pre.length : Nat) : Int) < ((l.length : Nat) : Int)) = true]) (by kernel_rfl) (⟨len_map, (lt_yes ha)⟩) fun ac wd hS => ?_
      refine cond_yes hS (c := true) (by kernel_rfl) rfl ?_
      refine runs_skip ?_
      refine runs_seq ?_
      refine runs_block ?_
      refine runs_seq ?_
      rcases Bool.eq_false_or_eq_true (decide (([x.Account, x.Land] : List Int) = [y.Account, y.Land])) with hb2 | hb2
      · skip
        refine drw [(2, .av (Home.av x)), (6, .av (Home.av y)), (8, .dec false)] [0, 1, 5, 25] hG hS (env := [(0, .sl (l.map Home.av)), (1, .sl (m.map Home.av)), (5, .int .i64 ((pre.length : Nat) : Int)), (25, .bool false)]) (own := []) (obs := [0 ≤ (((pre.length : Nat) : Int) : Int) ∧ (l.map Home.av : List AV)[(((pre.length : Nat) : Int) : Int).toNat]? = some (Home.av x), 0 ≤ (((pre.length : Nat) : Int) : Int) ∧ (m.map Home.av : List AV)[(((pre.length : Nat) : Int) : Int).toNat]? = some (Home.av y), (!decide (([x.Account, x.Land] : List Int) = [y.Account, y.Land])) = false]) (by kernel_rfl) (by kernel_rfl) (⟨(idx_ok ha), (idx_ok hb), by rw [hb2]; rfl⟩) fun ac wd hS => ?_
        refine cond_no hS (c := false) (by kernel_rfl) rfl ?_
        refine runs_skip ?_
        refine runs_inBlock ?_
        refine reg [(1, .is (((pre ++ [x]).length : Nat) : Int))] [0, 1, 5] hG hS (env := [(0, .sl (l.map Home.av)), (1, .sl (m.map Home.av)), (5, .int .i64 (((pre ++ [x]).length : Nat) : Int))]) (own := []) (obs := [IntKind.i64.wrap (((pre.length : Nat) : Int) + 1) = (((pre ++ [x]).length : Nat) : Int)]) (by kernel_rfl) ((next_len ha hn)) fun ac wd hS => ?_
        refine runs_inLoop ?_
        exact ihx _ _ (pre ++ [x]) rb2 (next_eq ha) (by have e := (Home_dec.1 (by simpa using hb2)); subst e; rw [hb]; simp) hlbz (hS.sel [] [0, 1, 5] (by kernel_rfl))
      · skip
        refine drw [(2, .av (Home.av x)), (6, .av (Home.av y)), (8, .dec true)] [0, 1, 5, 25] hG hS (env := [(0, .sl (l.map Home.av)), (1, .sl (m.map Home.av)), (5, .int .i64 ((pre.length : Nat) : Int)), (25, .bool true)]) (own := []) (obs := [0 ≤ (((pre.length : Nat) : Int) : Int) ∧ (l.map Home.av : List AV)[(((pre.length : Nat) : Int) : Int).toNat]? = some (Home.av x), 0 ≤ (((pre.length : Nat) : Int) : Int) ∧ (m.map Home.av : List AV)[(((pre.length : Nat) : Int) : Int).toNat]? = some (Home.av y), (!decide (([x.Account, x.Land] : List Int) = [y.Account, y.Land])) = true]) (by kernel_rfl) (by kernel_rfl) (⟨(idx_ok ha), (idx_ok hb), by rw [hb2]; rfl⟩) fun ac wd hS => ?_
        refine cond_yes hS (c := true) (by kernel_rfl) rfl ?_
        refine runs_seq ?_
        refine reg [] [4] hG hS (env := [(4, .bool false)]) (own := []) (obs := []) (by kernel_rfl) (trivial) fun ac wd hS => ?_
        rw [show (.bool (decide (l = m)) : AV) = .bool false from by rw [(decide_eq_false (same_not ha hb ((fun e => absurd (Home_dec.2 e) (by simpa using hb2)))))]]
        exact retz Tryz.func23 rfl hB hBd hS (by kernel_rfl) rfl
def sameCodeB (p q : Code) : Bool := decide (p.Laws = q.Laws) && decide (p.Stills = q.Stills)
theorem sameCode_ok (p q : Code) (hn1 : p.Laws.length ≤ 65536) (hn2 : p.Stills.length ≤ 65536) : CallA Tryz.prog GT 22 [Code.av p, Code.av q] (.bool (sameCodeB p q)) := by
  refine callA_of Tryz.func22 rfl (by simp [Tryz.f22]) rfl fun B ac hB hBd hG hS => ?_
  refine runs_seq ?_
  refine reg [] [2, 3] hG hS (env := [(2, .box 0 0), (3, .box 1 0)]) (own := [.box none 25 [.sl (p.Laws.map Law.av), .sl (p.Stills.map Still.av)], .box none 25 [.sl (q.Laws.map Law.av), .sl (q.Stills.map Still.av)]]) (obs := []) (by kernel_rfl) (trivial) fun ac wd hS => ?_
  refine runs_seq ?_
  refine runs_seq ?_
  rcases Bool.eq_false_or_eq_true ((((p.Laws.length : Nat) : Int) != ((q.Laws.length : Nat) : Int))) with hb1 | hb1
  · skip
    refine reg [(2, .is ((p.Laws.length : Nat) : Int)), (5, .is ((q.Laws.length : Nat) : Int)), (7, .dec true)] [2, 3, 22] hG hS (env := [(2, .box 0 0), (3, .box 1 0), (22, .bool true)]) (own := [.box none 25 [.sl (p.Laws.map Law.av), .sl (p.Stills.map Still.av)], .box none 25 [.sl (q.Laws.map Law.av), .sl (q.Stills.map Still.av)]]) (obs := [((p.Laws.map Law.av).length : Int) = ((p.Laws.length : Nat) : Int), ((q.Laws.map Law.av).length : Int) = ((q.Laws.length : Nat) : Int), (((p.Laws.length : Nat) : Int) != ((q.Laws.length : Nat) : Int)) = true]) (by kernel_rfl) (⟨len_map, len_map, hb1⟩) fun ac wd hS => ?_
    refine cond_yes hS (c := true) (by kernel_rfl) rfl ?_
    refine runs_seq ?_
    refine reg [] [4] hG hS (env := [(4, .bool false)]) (own := [.box none 25 [.sl (p.Laws.map Law.av), .sl (p.Stills.map Still.av)], .box none 25 [.sl (q.Laws.map Law.av), .sl (q.Stills.map Still.av)]]) (obs := []) (by kernel_rfl) (trivial) fun ac wd hS => ?_
    rw [show (.bool (sameCodeB p q) : AV) = .bool false from by simp only [sameCodeB, decide_eq_false (ne_len (neq_len hb1)), Bool.false_and]]
    exact retz Tryz.func22 rfl hB hBd hS (by kernel_rfl) rfl
  · skip
    rcases Bool.eq_false_or_eq_true ((((p.Stills.length : Nat) : Int) != ((q.Stills.length : Nat) : Int))) with hb2 | hb2
    · skip
      refine reg [(2, .is ((p.Laws.length : Nat) : Int)), (5, .is ((q.Laws.length : Nat) : Int)), (7, .dec false), (10, .is ((p.Stills.length : Nat) : Int)), (13, .is ((q.Stills.length : Nat) : Int)), (15, .dec true)] [2, 3, 22] hG hS (env := [(2, .box 0 0), (3, .box 1 0), (22, .bool true)]) (own := [.box none 25 [.sl (p.Laws.map Law.av), .sl (p.Stills.map Still.av)], .box none 25 [.sl (q.Laws.map Law.av), .sl (q.Stills.map Still.av)]]) (obs := [((p.Laws.map Law.av).length : Int) = ((p.Laws.length : Nat) : Int), ((q.Laws.map Law.av).length : Int) = ((q.Laws.length : Nat) : Int), (((p.Laws.length : Nat) : Int) != ((q.Laws.length : Nat) : Int)) = false, ((p.Stills.map Still.av).length : Int) = ((p.Stills.length : Nat) : Int), ((q.Stills.map Still.av).length : Int) = ((q.Stills.length : Nat) : Int), (((p.Stills.length : Nat) : Int) != ((q.Stills.length : Nat) : Int)) = true]) (by kernel_rfl) (⟨len_map, len_map, hb1, len_map, len_map, hb2⟩) fun ac wd hS => ?_
      refine cond_yes hS (c := true) (by kernel_rfl) rfl ?_
      refine runs_seq ?_
      refine reg [] [4] hG hS (env := [(4, .bool false)]) (own := [.box none 25 [.sl (p.Laws.map Law.av), .sl (p.Stills.map Still.av)], .box none 25 [.sl (q.Laws.map Law.av), .sl (q.Stills.map Still.av)]]) (obs := []) (by kernel_rfl) (trivial) fun ac wd hS => ?_
      rw [show (.bool (sameCodeB p q) : AV) = .bool false from by simp only [sameCodeB, decide_eq_false (ne_len (neq_len hb2)), Bool.and_false]]
      exact retz Tryz.func22 rfl hB hBd hS (by kernel_rfl) rfl
    · skip
      refine reg [(2, .is ((p.Laws.length : Nat) : Int)), (5, .is ((q.Laws.length : Nat) : Int)), (7, .dec false), (10, .is ((p.Stills.length : Nat) : Int)), (13, .is ((q.Stills.length : Nat) : Int)), (15, .dec false)] [2, 3, 22] hG hS (env := [(2, .box 0 0), (3, .box 1 0), (22, .bool false)]) (own := [.box none 25 [.sl (p.Laws.map Law.av), .sl (p.Stills.map Still.av)], .box none 25 [.sl (q.Laws.map Law.av), .sl (q.Stills.map Still.av)]]) (obs := [((p.Laws.map Law.av).length : Int) = ((p.Laws.length : Nat) : Int), ((q.Laws.map Law.av).length : Int) = ((q.Laws.length : Nat) : Int), (((p.Laws.length : Nat) : Int) != ((q.Laws.length : Nat) : Int)) = false, ((p.Stills.map Still.av).length : Int) = ((p.Stills.length : Nat) : Int), ((q.Stills.map Still.av).length : Int) = ((q.Stills.length : Nat) : Int), (((p.Stills.length : Nat) : Int) != ((q.Stills.length : Nat) : Int)) = false]) (by kernel_rfl) (⟨len_map, len_map, hb1, len_map, len_map, hb2⟩) fun ac wd hS => ?_
      refine cond_no hS (c := false) (by kernel_rfl) rfl ?_
      refine runs_skip ?_
      refine runs_seq ?_
      refine runs_seq ?_
      refine reg [] [2, 3, 5] hG hS (env := [(2, .box 0 0), (3, .box 1 0), (5, .int .i64 0)]) (own := [.box none 25 [.sl (p.Laws.map Law.av), .sl (p.Stills.map Still.av)], .box none 25 [.sl (q.Laws.map Law.av), .sl (q.Stills.map Still.av)]]) (obs := []) (by kernel_rfl) (trivial) fun ac wd hS => ?_
      refine runs_block ?_
      refine runs_loop ?_
      have hinv : ∃ (pre rest : List Law) (rb : List Law), p.Laws = pre ++ rest ∧ (q.Laws = pre ++ rb) ∧ (rb.length = rest.length) ∧ Sat B ⟨Tryz.f22.ntmps, [(2, .box 0 0), (3, .box 1 0), (5, .int .i64 ((pre.length : Nat) : Int))], [.box none 25 [.sl (p.Laws.map Law.av), .sl (p.Stills.map Still.av)], .box none 25 [.sl (q.Laws.map Law.av), .sl (q.Stills.map Still.av)]]⟩ ac wd := ⟨[], p.Laws, q.Laws, rfl, rfl, (eq_len hb1), hS.sel [0, 1] [2, 3, 5] (by kernel_rfl)⟩
      clear hS
      obtain ⟨pre, rest, rb, ha, hb, hlb, hS⟩ := hinv
      induction rest generalizing pre rb ac wd with
      | nil =>
        refine runs_seq ?_
        refine runs_seq ?_
        refine reg [(3, .is ((p.Laws.length : Nat) : Int)), (4, .dec false)] [2, 3, 5, 27] hG hS (env := [(2, .box 0 0), (3, .box 1 0), (5, .int .i64 ((pre.length : Nat) : Int)), (27, .bool false)]) (own := [.box none 25 [.sl (p.Laws.map Law.av), .sl (p.Stills.map Still.av)], .box none 25 [.sl (q.Laws.map Law.av), .sl (q.Stills.map Still.av)]]) (obs := [((p.Laws.map Law.av).length : Int) = ((p.Laws.length : Nat) : Int), decide (((pre.length : Nat) : Int) < ((p.Laws.length : Nat) : Int)) = false]) (by kernel_rfl) (⟨len_map, (lt_no ha)⟩) fun ac wd hS => ?_
        refine cond_no hS (c := false) (by kernel_rfl) rfl ?_
        refine runs_exit (by rfl) ?_
        refine runs_seq ?_
        refine runs_seq ?_
        refine reg [] [2, 3, 6] hG hS (env := [(2, .box 0 0), (3, .box 1 0), (6, .int .i64 0)]) (own := [.box none 25 [.sl (p.Laws.map Law.av), .sl (p.Stills.map Still.av)], .box none 25 [.sl (q.Laws.map Law.av), .sl (q.Stills.map Still.av)]]) (obs := []) (by kernel_rfl) (trivial) fun ac wd hS => ?_
        refine runs_block ?_
        refine runs_loop ?_
        have hinv : ∃ (pre2 rest2 : List Still) (rb2 : List Still), p.Stills = pre2 ++ rest2 ∧ (q.Stills = pre2 ++ rb2) ∧ (rb2.length = rest2.length) ∧ Sat B ⟨Tryz.f22.ntmps, [(2, .box 0 0), (3, .box 1 0), (6, .int .i64 ((pre2.length : Nat) : Int))], [.box none 25 [.sl (p.Laws.map Law.av), .sl (p.Stills.map Still.av)], .box none 25 [.sl (q.Laws.map Law.av), .sl (q.Stills.map Still.av)]]⟩ ac wd := ⟨[], p.Stills, q.Stills, rfl, rfl, (eq_len hb2), hS.sel [0, 1] [2, 3, 6] (by kernel_rfl)⟩
        clear hS
        obtain ⟨pre2, rest2, rb2, ha2, hb2, hlb2, hS⟩ := hinv
        induction rest2 generalizing pre2 rb2 ac wd with
        | nil =>
          refine runs_seq ?_
          refine runs_seq ?_
          refine reg [(3, .is ((p.Stills.length : Nat) : Int)), (4, .dec false)] [2, 3, 6, 45] hG hS (env := [(2, .box 0 0), (3, .box 1 0), (6, .int .i64 ((pre2.length : Nat) : Int)), (45, .bool false)]) (own := [.box none 25 [.sl (p.Laws.map Law.av), .sl (p.Stills.map Still.av)], .box none 25 [.sl (q.Laws.map Law.av), .sl (q.Stills.map Still.av)]]) (obs := [((p.Stills.map Still.av).length : Int) = ((p.Stills.length : Nat) : Int), decide (((pre2.length : Nat) : Int) < ((p.Stills.length : Nat) : Int)) = false]) (by kernel_rfl) (⟨len_map, (lt_no ha2)⟩) fun ac wd hS => ?_
          refine cond_no hS (c := false) (by kernel_rfl) rfl ?_
          refine runs_exit (by rfl) ?_
          refine runs_seq ?_
          refine reg [] [4] hG hS (env := [(4, .bool true)]) (own := [.box none 25 [.sl (p.Laws.map Law.av), .sl (p.Stills.map Still.av)], .box none 25 [.sl (q.Laws.map Law.av), .sl (q.Stills.map Still.av)]]) (obs := []) (by kernel_rfl) (trivial) fun ac wd hS => ?_
          rw [show (.bool (sameCodeB p q) : AV) = .bool true from by simp only [sameCodeB, decide_eq_true (same_end ha hb hlb), decide_eq_true (same_end ha2 hb2 hlb2), Bool.and_self]]
          exact retz Tryz.func22 rfl hB hBd hS (by kernel_rfl) rfl
        | cons x2 rest2 ihx2 =>
          obtain ⟨y2, rb22, hrb2, hlb2z⟩ := cons_of hlb2
          subst hrb2
          refine runs_seq ?_
          refine runs_seq ?_
          refine reg [(3, .is ((p.Stills.length : Nat) : Int)), (4, .dec true)] [2, 3, 6, 45] hG hS (env := [(2, .box 0 0), (3, .box 1 0), (6, .int .i64 ((pre2.length : Nat) : Int)), (45, .bool true)]) (own := [.box none 25 [.sl (p.Laws.map Law.av), .sl (p.Stills.map Still.av)], .box none 25 [.sl (q.Laws.map Law.av), .sl (q.Stills.map Still.av)]]) (obs := [((p.Stills.map Still.av).length : Int) = ((p.Stills.length : Nat) : Int), decide (((pre2.length : Nat) : Int) < ((p.Stills.length : Nat) : Int)) = true]) (by kernel_rfl) (⟨len_map, (lt_yes ha2)⟩) fun ac wd hS => ?_
          refine cond_yes hS (c := true) (by kernel_rfl) rfl ?_
          refine runs_skip ?_
          refine runs_seq ?_
          refine runs_block ?_
          refine runs_seq ?_
          rcases Bool.eq_false_or_eq_true (decide (([x2.Land, x2.Days, U8.i x2.Means] : List Int) = [y2.Land, y2.Days, U8.i y2.Means])) with hb3 | hb3
          · skip
            refine drw [(3, .av (Still.av x2)), (8, .av (Still.av y2)), (10, .dec false)] [2, 3, 6, 58] hG hS (env := [(2, .box 0 0), (3, .box 1 0), (6, .int .i64 ((pre2.length : Nat) : Int)), (58, .bool false)]) (own := [.box none 25 [.sl (p.Laws.map Law.av), .sl (p.Stills.map Still.av)], .box none 25 [.sl (q.Laws.map Law.av), .sl (q.Stills.map Still.av)]]) (obs := [0 ≤ (((pre2.length : Nat) : Int) : Int) ∧ (p.Stills.map Still.av : List AV)[(((pre2.length : Nat) : Int) : Int).toNat]? = some (Still.av x2), 0 ≤ (((pre2.length : Nat) : Int) : Int) ∧ (q.Stills.map Still.av : List AV)[(((pre2.length : Nat) : Int) : Int).toNat]? = some (Still.av y2), (!decide (([x2.Land, x2.Days, U8.i x2.Means] : List Int) = [y2.Land, y2.Days, U8.i y2.Means])) = false]) (by kernel_rfl) (by kernel_rfl) (⟨(idx_ok ha2), (idx_ok hb2), by rw [hb3]; rfl⟩) fun ac wd hS => ?_
            refine cond_no hS (c := false) (by kernel_rfl) rfl ?_
            refine runs_skip ?_
            refine runs_inBlock ?_
            refine reg [(1, .is (((pre2 ++ [x2]).length : Nat) : Int))] [2, 3, 6] hG hS (env := [(2, .box 0 0), (3, .box 1 0), (6, .int .i64 (((pre2 ++ [x2]).length : Nat) : Int))]) (own := [.box none 25 [.sl (p.Laws.map Law.av), .sl (p.Stills.map Still.av)], .box none 25 [.sl (q.Laws.map Law.av), .sl (q.Stills.map Still.av)]]) (obs := [IntKind.i64.wrap (((pre2.length : Nat) : Int) + 1) = (((pre2 ++ [x2]).length : Nat) : Int)]) (by kernel_rfl) ((next_len ha2 hn2)) fun ac wd hS => ?_
            refine runs_inLoop ?_
            exact ihx2 _ _ (pre2 ++ [x2]) rb22 (next_eq ha2) (by have e := (Still_dec.1 (by simpa using hb3)); subst e; rw [hb2]; simp) hlb2z (hS.sel [0, 1] [2, 3, 6] (by kernel_rfl))
          · skip
            refine drw [(3, .av (Still.av x2)), (8, .av (Still.av y2)), (10, .dec true)] [2, 3, 6, 58] hG hS (env := [(2, .box 0 0), (3, .box 1 0), (6, .int .i64 ((pre2.length : Nat) : Int)), (58, .bool true)]) (own := [.box none 25 [.sl (p.Laws.map Law.av), .sl (p.Stills.map Still.av)], .box none 25 [.sl (q.Laws.map Law.av), .sl (q.Stills.map Still.av)]]) (obs := [0 ≤ (((pre2.length : Nat) : Int) : Int) ∧ (p.Stills.map Still.av : List AV)[(((pre2.length : Nat) : Int) : Int).toNat]? = some (Still.av x2), 0 ≤ (((pre2.length : Nat) : Int) : Int) ∧ (q.Stills.map Still.av : List AV)[(((pre2.length : Nat) : Int) : Int).toNat]? = some (Still.av y2), (!decide (([x2.Land, x2.Days, U8.i x2.Means] : List Int) = [y2.Land, y2.Days, U8.i y2.Means])) = true]) (by kernel_rfl) (by kernel_rfl) (⟨(idx_ok ha2), (idx_ok hb2), by rw [hb3]; rfl⟩) fun ac wd hS => ?_
            refine cond_yes hS (c := true) (by kernel_rfl) rfl ?_
            refine runs_seq ?_
            refine reg [] [4] hG hS (env := [(4, .bool false)]) (own := [.box none 25 [.sl (p.Laws.map Law.av), .sl (p.Stills.map Still.av)], .box none 25 [.sl (q.Laws.map Law.av), .sl (q.Stills.map Still.av)]]) (obs := []) (by kernel_rfl) (trivial) fun ac wd hS => ?_
            rw [show (.bool (sameCodeB p q) : AV) = .bool false from by simp only [sameCodeB, decide_eq_false (same_not ha2 hb2 ((fun e => absurd (Still_dec.2 e) (by simpa using hb3)))), Bool.and_false]]
            exact retz Tryz.func22 rfl hB hBd hS (by kernel_rfl) rfl
      | cons x rest ihx =>
        obtain ⟨y, rb2, hrb, hlbz⟩ := cons_of hlb
        subst hrb
        refine runs_seq ?_
        refine runs_seq ?_
        refine reg [(3, .is ((p.Laws.length : Nat) : Int)), (4, .dec true)] [2, 3, 5, 27] hG hS (env := [(2, .box 0 0), (3, .box 1 0), (5, .int .i64 ((pre.length : Nat) : Int)), (27, .bool true)]) (own := [.box none 25 [.sl (p.Laws.map Law.av), .sl (p.Stills.map Still.av)], .box none 25 [.sl (q.Laws.map Law.av), .sl (q.Stills.map Still.av)]]) (obs := [((p.Laws.map Law.av).length : Int) = ((p.Laws.length : Nat) : Int), decide (((pre.length : Nat) : Int) < ((p.Laws.length : Nat) : Int)) = true]) (by kernel_rfl) (⟨len_map, (lt_yes ha)⟩) fun ac wd hS => ?_
        refine cond_yes hS (c := true) (by kernel_rfl) rfl ?_
        refine runs_skip ?_
        refine runs_seq ?_
        refine runs_block ?_
        refine runs_seq ?_
        rcases Bool.eq_false_or_eq_true (decide (([x.Land, U8.i x.Kind, U8.i x.Base, x.Keep] : List Int) = [y.Land, U8.i y.Kind, U8.i y.Base, y.Keep])) with hb4 | hb4
        · skip
          refine drw [(3, .av (Law.av x)), (8, .av (Law.av y)), (10, .dec false)] [2, 3, 5, 40] hG hS (env := [(2, .box 0 0), (3, .box 1 0), (5, .int .i64 ((pre.length : Nat) : Int)), (40, .bool false)]) (own := [.box none 25 [.sl (p.Laws.map Law.av), .sl (p.Stills.map Still.av)], .box none 25 [.sl (q.Laws.map Law.av), .sl (q.Stills.map Still.av)]]) (obs := [0 ≤ (((pre.length : Nat) : Int) : Int) ∧ (p.Laws.map Law.av : List AV)[(((pre.length : Nat) : Int) : Int).toNat]? = some (Law.av x), 0 ≤ (((pre.length : Nat) : Int) : Int) ∧ (q.Laws.map Law.av : List AV)[(((pre.length : Nat) : Int) : Int).toNat]? = some (Law.av y), (!decide (([x.Land, U8.i x.Kind, U8.i x.Base, x.Keep] : List Int) = [y.Land, U8.i y.Kind, U8.i y.Base, y.Keep])) = false]) (by kernel_rfl) (by kernel_rfl) (⟨(idx_ok ha), (idx_ok hb), by rw [hb4]; rfl⟩) fun ac wd hS => ?_
          refine cond_no hS (c := false) (by kernel_rfl) rfl ?_
          refine runs_skip ?_
          refine runs_inBlock ?_
          refine reg [(1, .is (((pre ++ [x]).length : Nat) : Int))] [2, 3, 5] hG hS (env := [(2, .box 0 0), (3, .box 1 0), (5, .int .i64 (((pre ++ [x]).length : Nat) : Int))]) (own := [.box none 25 [.sl (p.Laws.map Law.av), .sl (p.Stills.map Still.av)], .box none 25 [.sl (q.Laws.map Law.av), .sl (q.Stills.map Still.av)]]) (obs := [IntKind.i64.wrap (((pre.length : Nat) : Int) + 1) = (((pre ++ [x]).length : Nat) : Int)]) (by kernel_rfl) ((next_len ha hn1)) fun ac wd hS => ?_
          refine runs_inLoop ?_
          exact ihx _ _ (pre ++ [x]) rb2 (next_eq ha) (by have e := (Law_dec.1 (by simpa using hb4)); subst e; rw [hb]; simp) hlbz (hS.sel [0, 1] [2, 3, 5] (by kernel_rfl))
        · skip
          refine drw [(3, .av (Law.av x)), (8, .av (Law.av y)), (10, .dec true)] [2, 3, 5, 40] hG hS (env := [(2, .box 0 0), (3, .box 1 0), (5, .int .i64 ((pre.length : Nat) : Int)), (40, .bool true)]) (own := [.box none 25 [.sl (p.Laws.map Law.av), .sl (p.Stills.map Still.av)], .box none 25 [.sl (q.Laws.map Law.av), .sl (q.Stills.map Still.av)]]) (obs := [0 ≤ (((pre.length : Nat) : Int) : Int) ∧ (p.Laws.map Law.av : List AV)[(((pre.length : Nat) : Int) : Int).toNat]? = some (Law.av x), 0 ≤ (((pre.length : Nat) : Int) : Int) ∧ (q.Laws.map Law.av : List AV)[(((pre.length : Nat) : Int) : Int).toNat]? = some (Law.av y), (!decide (([x.Land, U8.i x.Kind, U8.i x.Base, x.Keep] : List Int) = [y.Land, U8.i y.Kind, U8.i y.Base, y.Keep])) = true]) (by kernel_rfl) (by kernel_rfl) (⟨(idx_ok ha), (idx_ok hb), by rw [hb4]; rfl⟩) fun ac wd hS => ?_
          refine cond_yes hS (c := true) (by kernel_rfl) rfl ?_
          refine runs_seq ?_
          refine reg [] [4] hG hS (env := [(4, .bool false)]) (own := [.box none 25 [.sl (p.Laws.map Law.av), .sl (p.Stills.map Still.av)], .box none 25 [.sl (q.Laws.map Law.av), .sl (q.Stills.map Still.av)]]) (obs := []) (by kernel_rfl) (trivial) fun ac wd hS => ?_
          rw [show (.bool (sameCodeB p q) : AV) = .bool false from by simp only [sameCodeB, decide_eq_false (same_not ha hb ((fun e => absurd (Law_dec.2 e) (by simpa using hb4)))), Bool.false_and]]
          exact retz Tryz.func22 rfl hB hBd hS (by kernel_rfl) rfl
end Go.Fw

set_option maxRecDepth 20000
namespace Go.Fw
open Go.Proofs

def chainB {α : Type} (ok : α → Bool) (bad : α → α → Bool) : Option α → List α → Bool
  | _, [] => true
  | none, x :: l => ok x && chainB ok bad (some x) l
  | some y, x :: l => ok x && !bad y x && chainB ok bad (some x) l
section
variable {α : Type} {ok : α → Bool} {bad : α → α → Bool} {pre rest pr : List α} {x y : α} {X : Bool}
theorem chain_nil (h : pre = []) (hr : X = chainB ok bad pre.getLast? (x :: rest)) (h1 : ok x = true) : X = chainB ok bad (pre ++ [x]).getLast? rest := by
  subst h; rw [hr]; simp [chainB, h1]
theorem chain_some (h : pre = pr ++ [y]) (hr : X = chainB ok bad pre.getLast? (x :: rest)) (h1 : ok x = true) (h2 : bad y x = false) : X = chainB ok bad (pre ++ [x]).getLast? rest := by
  subst h; rw [hr]
  simp only [List.getLast?_append, List.getLast?_singleton, Option.some_or, chainB, h1, h2, Bool.not_false, Bool.true_and]
theorem chain_no1 (hr : X = chainB ok bad pre.getLast? (x :: rest)) (h1 : ok x = false) : X = false := by
  rw [hr]; cases pre.getLast? <;> simp [chainB, h1]
theorem chain_no2 (h : pre = pr ++ [y]) (hr : X = chainB ok bad pre.getLast? (x :: rest)) (h2 : bad y x = true) : X = false := by
  subst h; rw [hr]
  simp only [List.getLast?_append, List.getLast?_singleton, Option.some_or, chainB, h2, Bool.not_true, Bool.and_false, Bool.false_and]
theorem chain_end (hr : X = chainB ok bad pre.getLast? []) : X = true := by
  rw [hr]; cases pre.getLast? <;> rfl
end
def lawRef (x : Law) : Bool := within x.Land 0 99 && (within (U8.i x.Kind) 1 7 && (within (U8.i x.Base) 1 3 && within x.Keep 0 100000))
def lawBad (y x : Law) : Bool := decide (x.Land < y.Land) || ((x.Land == y.Land) && decide (U8.i x.Kind ≤ U8.i y.Kind))
def stillRef (x : Still) : Bool := within x.Land 0 99 && (within x.Days 1 100000 && !decide (U8.i x.Means > 2))
def stillBad (y x : Still) : Bool := decide (x.Land ≤ y.Land)
def homeRef (x : Home) : Bool := within x.Account 0 999999 && within x.Land 0 99
def homeBad (y x : Home) : Bool := decide (x.Account ≤ y.Account)
def codeRefB (c : Code) : Bool := (!decide (((c.Laws.length : Nat) : Int) > 40) && !decide (((c.Stills.length : Nat) : Int) > 20)) && (chainB lawRef lawBad none c.Laws && chainB stillRef stillBad none c.Stills)
def homesRefB (l : List Home) : Bool := !decide (((l.length : Nat) : Int) > 60) && chainB homeRef homeBad none l
def checkRefI (c : Code) (l : List Home) : Int := if codeRefB c then (if homesRefB l then 0 else 41) else 40
theorem codeRef_ok (c : Code) (hc1 : c.Laws.length ≤ 65536) (hc2 : c.Stills.length ≤ 65536) : CallA Tryz.prog GT 68 [Code.av c] (.bool (codeRefB c)) := by
  refine callA_of Tryz.func68 rfl (by simp [Tryz.f68]) rfl fun B ac hB hBd hG hS => ?_
  refine runs_seq ?_
  refine reg [] [1] hG hS (env := [(1, .box 0 0)]) (own := [.box none 25 [.sl (c.Laws.map Law.av), .sl (c.Stills.map Still.av)]]) (obs := []) (by kernel_rfl) (trivial) fun ac wd hS => ?_
  refine runs_seq ?_
  refine runs_seq ?_
  rcases Bool.eq_false_or_eq_true (decide (((c.Laws.length : Nat) : Int) > 40)) with hb1 | hb1
  · skip
    refine reg [(2, .is ((c.Laws.length : Nat) : Int)), (4, .dec true)] [1, 16] hG hS (env := [(1, .box 0 0), (16, .bool true)]) (own := [.box none 25 [.sl (c.Laws.map Law.av), .sl (c.Stills.map Still.av)]]) (obs := [((c.Laws.map Law.av).length : Int) = ((c.Laws.length : Nat) : Int), decide (((c.Laws.length : Nat) : Int) > 40) = true]) (by kernel_rfl) (⟨len_map, hb1⟩) fun ac wd hS => ?_
    refine cond_yes hS (c := true) (by kernel_rfl) rfl ?_
    refine runs_seq ?_
    refine reg [] [2] hG hS (env := [(2, .bool false)]) (own := [.box none 25 [.sl (c.Laws.map Law.av), .sl (c.Stills.map Still.av)]]) (obs := []) (by kernel_rfl) (trivial) fun ac wd hS => ?_
    rw [show (.bool (codeRefB c) : AV) = .bool false from by simp only [codeRefB, hb1, Bool.and_true, Bool.true_and, Bool.and_false, Bool.false_and, Bool.or_true, Bool.true_or, Bool.or_false, Bool.false_or, Bool.not_true, Bool.not_false]]
    exact retz Tryz.func68 rfl hB hBd hS (by kernel_rfl) rfl
  · skip
    rcases Bool.eq_false_or_eq_true (decide (((c.Stills.length : Nat) : Int) > 20)) with hb2 | hb2
    · skip
      refine reg [(2, .is ((c.Laws.length : Nat) : Int)), (4, .dec false), (7, .is ((c.Stills.length : Nat) : Int)), (9, .dec true)] [1, 16] hG hS (env := [(1, .box 0 0), (16, .bool true)]) (own := [.box none 25 [.sl (c.Laws.map Law.av), .sl (c.Stills.map Still.av)]]) (obs := [((c.Laws.map Law.av).length : Int) = ((c.Laws.length : Nat) : Int), decide (((c.Laws.length : Nat) : Int) > 40) = false, ((c.Stills.map Still.av).length : Int) = ((c.Stills.length : Nat) : Int), decide (((c.Stills.length : Nat) : Int) > 20) = true]) (by kernel_rfl) (⟨len_map, hb1, len_map, hb2⟩) fun ac wd hS => ?_
      refine cond_yes hS (c := true) (by kernel_rfl) rfl ?_
      refine runs_seq ?_
      refine reg [] [2] hG hS (env := [(2, .bool false)]) (own := [.box none 25 [.sl (c.Laws.map Law.av), .sl (c.Stills.map Still.av)]]) (obs := []) (by kernel_rfl) (trivial) fun ac wd hS => ?_
      rw [show (.bool (codeRefB c) : AV) = .bool false from by simp only [codeRefB, hb1, hb2, Bool.and_true, Bool.true_and, Bool.and_false, Bool.false_and, Bool.or_true, Bool.true_or, Bool.or_false, Bool.false_or, Bool.not_true, Bool.not_false]]
      exact retz Tryz.func68 rfl hB hBd hS (by kernel_rfl) rfl
    · skip
      refine reg [(2, .is ((c.Laws.length : Nat) : Int)), (4, .dec false), (7, .is ((c.Stills.length : Nat) : Int)), (9, .dec false)] [1, 16] hG hS (env := [(1, .box 0 0), (16, .bool false)]) (own := [.box none 25 [.sl (c.Laws.map Law.av), .sl (c.Stills.map Still.av)]]) (obs := [((c.Laws.map Law.av).length : Int) = ((c.Laws.length : Nat) : Int), decide (((c.Laws.length : Nat) : Int) > 40) = false, ((c.Stills.map Still.av).length : Int) = ((c.Stills.length : Nat) : Int), decide (((c.Stills.length : Nat) : Int) > 20) = false]) (by kernel_rfl) (⟨len_map, hb1, len_map, hb2⟩) fun ac wd hS => ?_
      refine cond_no hS (c := false) (by kernel_rfl) rfl ?_
      refine runs_skip ?_
      refine runs_seq ?_
      refine runs_seq ?_
      refine reg [] [1, 3] hG hS (env := [(1, .box 0 0), (3, .int .i64 0)]) (own := [.box none 25 [.sl (c.Laws.map Law.av), .sl (c.Stills.map Still.av)]]) (obs := []) (by kernel_rfl) (trivial) fun ac wd hS => ?_
      refine runs_block ?_
      refine runs_loop ?_
      have hinv : ∃ (pre rest : List Law), c.Laws = pre ++ rest ∧ (chainB lawRef lawBad none c.Laws = chainB lawRef lawBad pre.getLast? rest) ∧ Sat B ⟨Tryz.f68.ntmps, [(1, .box 0 0), (3, .int .i64 ((pre.length : Nat) : Int))], [.box none 25 [.sl (c.Laws.map Law.av), .sl (c.Stills.map Still.av)]]⟩ ac wd := ⟨[], c.Laws, rfl, rfl, hS.sel [0] [1, 3] (by kernel_rfl)⟩
      clear hS
      obtain ⟨pre, rest, hl, hr, hS⟩ := hinv
      induction rest generalizing pre  ac wd with
      | nil =>
        refine runs_seq ?_
        refine runs_seq ?_
        refine reg [(3, .is ((c.Laws.length : Nat) : Int)), (4, .dec false)] [1, 3, 21] hG hS (env := [(1, .box 0 0), (3, .int .i64 ((pre.length : Nat) : Int)), (21, .bool false)]) (own := [.box none 25 [.sl (c.Laws.map Law.av), .sl (c.Stills.map Still.av)]]) (obs := [((c.Laws.map Law.av).length : Int) = ((c.Laws.length : Nat) : Int), decide (((pre.length : Nat) : Int) < ((c.Laws.length : Nat) : Int)) = false]) (by kernel_rfl) (⟨len_map, (lt_no hl)⟩) fun ac wd hS => ?_
        refine cond_no hS (c := false) (by kernel_rfl) rfl ?_
        refine runs_exit (by rfl) ?_
        refine runs_seq ?_
        refine runs_seq ?_
        refine reg [] [1, 5] hG hS (env := [(1, .box 0 0), (5, .int .i64 0)]) (own := [.box none 25 [.sl (c.Laws.map Law.av), .sl (c.Stills.map Still.av)]]) (obs := []) (by kernel_rfl) (trivial) fun ac wd hS => ?_
        refine runs_block ?_
        refine runs_loop ?_
        have hinv : ∃ (pre rest : List Still), c.Stills = pre ++ rest ∧ (chainB stillRef stillBad none c.Stills = chainB stillRef stillBad pre.getLast? rest) ∧ Sat B ⟨Tryz.f68.ntmps, [(1, .box 0 0), (5, .int .i64 ((pre.length : Nat) : Int))], [.box none 25 [.sl (c.Laws.map Law.av), .sl (c.Stills.map Still.av)]]⟩ ac wd := ⟨[], c.Stills, rfl, rfl, hS.sel [0] [1, 5] (by kernel_rfl)⟩
        clear hS
        obtain ⟨pre, rest, hl, hr2, hS⟩ := hinv
        induction rest generalizing pre  ac wd with
        | nil =>
          refine runs_seq ?_
          refine runs_seq ?_
          refine reg [(3, .is ((c.Stills.length : Nat) : Int)), (4, .dec false)] [1, 5, 95] hG hS (env := [(1, .box 0 0), (5, .int .i64 ((pre.length : Nat) : Int)), (95, .bool false)]) (own := [.box none 25 [.sl (c.Laws.map Law.av), .sl (c.Stills.map Still.av)]]) (obs := [((c.Stills.map Still.av).length : Int) = ((c.Stills.length : Nat) : Int), decide (((pre.length : Nat) : Int) < ((c.Stills.length : Nat) : Int)) = false]) (by kernel_rfl) (⟨len_map, (lt_no hl)⟩) fun ac wd hS => ?_
          refine cond_no hS (c := false) (by kernel_rfl) rfl ?_
          refine runs_exit (by rfl) ?_
          refine runs_seq ?_
          refine reg [] [2] hG hS (env := [(2, .bool true)]) (own := [.box none 25 [.sl (c.Laws.map Law.av), .sl (c.Stills.map Still.av)]]) (obs := []) (by kernel_rfl) (trivial) fun ac wd hS => ?_
          rw [show (.bool (codeRefB c) : AV) = .bool true from by simp only [codeRefB, chain_end hr, chain_end hr2, hb1, hb2, Bool.and_true, Bool.true_and, Bool.and_false, Bool.false_and, Bool.or_true, Bool.true_or, Bool.or_false, Bool.false_or, Bool.not_true, Bool.not_false]]
          exact retz Tryz.func68 rfl hB hBd hS (by kernel_rfl) rfl
        | cons x rest ihx =>
          rcases snoc_cases pre with hp | ⟨pr, y, hp⟩
          · skip
            refine runs_seq ?_
            refine runs_seq ?_
            refine reg [(3, .is ((c.Stills.length : Nat) : Int)), (4, .dec true)] [1, 5, 95] hG hS (env := [(1, .box 0 0), (5, .int .i64 ((pre.length : Nat) : Int)), (95, .bool true)]) (own := [.box none 25 [.sl (c.Laws.map Law.av), .sl (c.Stills.map Still.av)]]) (obs := [((c.Stills.map Still.av).length : Int) = ((c.Stills.length : Nat) : Int), decide (((pre.length : Nat) : Int) < ((c.Stills.length : Nat) : Int)) = true]) (by kernel_rfl) (⟨len_map, (lt_yes hl)⟩) fun ac wd hS => ?_
            refine cond_yes hS (c := true) (by kernel_rfl) rfl ?_
            refine runs_skip ?_
            refine runs_seq ?_
            refine runs_block ?_
            refine runs_seq ?_
            refine reg [(3, .av (Still.av x))] [1, 5, 6] hG hS (env := [(1, .box 0 0), (5, .int .i64 ((pre.length : Nat) : Int)), (6, .box 1 0)]) (own := [.box none 25 [.sl (c.Laws.map Law.av), .sl (c.Stills.map Still.av)], .box none 91 [.int .i64 x.Land, .int .i64 x.Days, .int .u8 (U8.i x.Means)]]) (obs := [0 ≤ (((pre.length : Nat) : Int) : Int) ∧ (c.Stills.map Still.av : List AV)[(((pre.length : Nat) : Int) : Int).toNat]? = some (Still.av x)]) (by kernel_rfl) ((idx_ok hl)) fun ac wd hS => ?_
            refine runs_seq ?_
            rcases Bool.eq_false_or_eq_true (within x.Land 0 99) with hb3 | hb3
            · skip
              rcases Bool.eq_false_or_eq_true (within x.Days 1 100000) with hb4 | hb4
              · skip
                rcases Bool.eq_false_or_eq_true (decide ((U8.i x.Means) > 2)) with hb5 | hb5
                · skip
                  refine drw [(2, .av (.bool (within x.Land 0 99))), (4, .dec false), (7, .av (.bool (within x.Days 1 100000))), (10, .dec false), (15, .dec true)] [1, 5, 133] hG hS (env := [(1, .box 0 0), (5, .int .i64 ((pre.length : Nat) : Int)), (133, .bool true)]) (own := [.box none 25 [.sl (c.Laws.map Law.av), .sl (c.Stills.map Still.av)], .box none 91 [.int .i64 x.Land, .int .i64 x.Days, .int .u8 (U8.i x.Means)]]) (obs := [CallA Tryz.prog GT 46 [.int .i64 x.Land, .int .i64 0, .int .i64 99] (.bool (within x.Land 0 99)), (!within x.Land 0 99) = false, CallA Tryz.prog GT 46 [.int .i64 x.Days, .int .i64 1, .int .i64 100000] (.bool (within x.Days 1 100000)), (!within x.Days 1 100000) = false, decide ((U8.i x.Means) > 2) = true]) (by kernel_rfl) (by kernel_rfl) (⟨(within_ok46 _ _ _), by rw [hb3]; rfl, (within_ok46 _ _ _), by rw [hb4]; rfl, hb5⟩) fun ac wd hS => ?_
                  refine cond_yes hS (c := true) (by kernel_rfl) rfl ?_
                  refine runs_seq ?_
                  refine reg [] [2] hG hS (env := [(2, .bool false)]) (own := [.box none 25 [.sl (c.Laws.map Law.av), .sl (c.Stills.map Still.av)], .box none 91 [.int .i64 x.Land, .int .i64 x.Days, .int .u8 (U8.i x.Means)]]) (obs := []) (by kernel_rfl) (trivial) fun ac wd hS => ?_
                  have e0 : chainB stillRef stillBad none c.Stills = false := by first | (refine chain_no1 hr2 ?_; simp only [stillRef, hb1, hb2, hb3, hb4, hb5, Bool.and_true, Bool.true_and, Bool.and_false, Bool.false_and, Bool.or_true, Bool.true_or, Bool.or_false, Bool.false_or, Bool.not_true, Bool.not_false]; done) | (refine chain_no2 hp hr2 ?_; simp only [stillBad, hb1, hb2, hb3, hb4, hb5, Bool.and_true, Bool.true_and, Bool.and_false, Bool.false_and, Bool.or_true, Bool.true_or, Bool.or_false, Bool.false_or, Bool.not_true, Bool.not_false]; done)
                  rw [show (.bool (codeRefB c) : AV) = .bool false from by simp only [codeRefB, e0, Bool.and_true, Bool.true_and, Bool.and_false, Bool.false_and, Bool.or_true, Bool.true_or, Bool.or_false, Bool.false_or, Bool.not_true, Bool.not_false]]
                  exact retz Tryz.func68 rfl hB hBd hS (by kernel_rfl) rfl
                · skip
                  refine drw [(2, .av (.bool (within x.Land 0 99))), (4, .dec false), (7, .av (.bool (within x.Days 1 100000))), (10, .dec false), (15, .dec false), (18, .dec false)] [1, 5, 133] hG hS (env := [(1, .box 0 0), (5, .int .i64 ((pre.length : Nat) : Int)), (133, .bool false)]) (own := [.box none 25 [.sl (c.Laws.map Law.av), .sl (c.Stills.map Still.av)], .box none 91 [.int .i64 x.Land, .int .i64 x.Days, .int .u8 (U8.i x.Means)]]) (obs := [CallA Tryz.prog GT 46 [.int .i64 x.Land, .int .i64 0, .int .i64 99] (.bool (within x.Land 0 99)), (!within x.Land 0 99) = false, CallA Tryz.prog GT 46 [.int .i64 x.Days, .int .i64 1, .int .i64 100000] (.bool (within x.Days 1 100000)), (!within x.Days 1 100000) = false, decide ((U8.i x.Means) > 2) = false, decide (((pre.length : Nat) : Int) > 0) = false]) (by kernel_rfl) (by kernel_rfl) (⟨(within_ok46 _ _ _), by rw [hb3]; rfl, (within_ok46 _ _ _), by rw [hb4]; rfl, hb5, (pos_no hp)⟩) fun ac wd hS => ?_
                  refine cond_no hS (c := false) (by kernel_rfl) rfl ?_
                  refine runs_skip ?_
                  refine runs_inBlock ?_
                  refine reg [(1, .is (((pre ++ [x]).length : Nat) : Int))] [1, 5] hG hS (env := [(1, .box 0 0), (5, .int .i64 (((pre ++ [x]).length : Nat) : Int))]) (own := [.box none 25 [.sl (c.Laws.map Law.av), .sl (c.Stills.map Still.av)], .box none 91 [.int .i64 x.Land, .int .i64 x.Days, .int .u8 (U8.i x.Means)]]) (obs := [IntKind.i64.wrap (((pre.length : Nat) : Int) + 1) = (((pre ++ [x]).length : Nat) : Int)]) (by kernel_rfl) ((next_len hl hc2)) fun ac wd hS => ?_
                  refine runs_inLoop ?_
                  exact ihx _ _ (pre ++ [x])  (next_eq hl) (chain_nil hp hr2 (by simp only [stillRef, hb1, hb2, hb3, hb4, hb5, Bool.and_true, Bool.true_and, Bool.and_false, Bool.false_and, Bool.or_true, Bool.true_or, Bool.or_false, Bool.false_or, Bool.not_true, Bool.not_false])) (hS.sel [0] [1, 5] (by kernel_rfl))
              · skip
                refine drw [(2, .av (.bool (within x.Land 0 99))), (4, .dec false), (7, .av (.bool (within x.Days 1 100000))), (10, .dec true)] [1, 5, 133] hG hS (env := [(1, .box 0 0), (5, .int .i64 ((pre.length : Nat) : Int)), (133, .bool true)]) (own := [.box none 25 [.sl (c.Laws.map Law.av), .sl (c.Stills.map Still.av)], .box none 91 [.int .i64 x.Land, .int .i64 x.Days, .int .u8 (U8.i x.Means)]]) (obs := [CallA Tryz.prog GT 46 [.int .i64 x.Land, .int .i64 0, .int .i64 99] (.bool (within x.Land 0 99)), (!within x.Land 0 99) = false, CallA Tryz.prog GT 46 [.int .i64 x.Days, .int .i64 1, .int .i64 100000] (.bool (within x.Days 1 100000)), (!within x.Days 1 100000) = true]) (by kernel_rfl) (by kernel_rfl) (⟨(within_ok46 _ _ _), by rw [hb3]; rfl, (within_ok46 _ _ _), by rw [hb4]; rfl⟩) fun ac wd hS => ?_
                refine cond_yes hS (c := true) (by kernel_rfl) rfl ?_
                refine runs_seq ?_
                refine reg [] [2] hG hS (env := [(2, .bool false)]) (own := [.box none 25 [.sl (c.Laws.map Law.av), .sl (c.Stills.map Still.av)], .box none 91 [.int .i64 x.Land, .int .i64 x.Days, .int .u8 (U8.i x.Means)]]) (obs := []) (by kernel_rfl) (trivial) fun ac wd hS => ?_
                have e0 : chainB stillRef stillBad none c.Stills = false := by first | (refine chain_no1 hr2 ?_; simp only [stillRef, hb1, hb2, hb3, hb4, Bool.and_true, Bool.true_and, Bool.and_false, Bool.false_and, Bool.or_true, Bool.true_or, Bool.or_false, Bool.false_or, Bool.not_true, Bool.not_false]; done) | (refine chain_no2 hp hr2 ?_; simp only [stillBad, hb1, hb2, hb3, hb4, Bool.and_true, Bool.true_and, Bool.and_false, Bool.false_and, Bool.or_true, Bool.true_or, Bool.or_false, Bool.false_or, Bool.not_true, Bool.not_false]; done)
                rw [show (.bool (codeRefB c) : AV) = .bool false from by simp only [codeRefB, e0, Bool.and_true, Bool.true_and, Bool.and_false, Bool.false_and, Bool.or_true, Bool.true_or, Bool.or_false, Bool.false_or, Bool.not_true, Bool.not_false]]
                exact retz Tryz.func68 rfl hB hBd hS (by kernel_rfl) rfl
            · skip
              refine drw [(2, .av (.bool (within x.Land 0 99))), (4, .dec true)] [1, 5, 133] hG hS (env := [(1, .box 0 0), (5, .int .i64 ((pre.length : Nat) : Int)), (133, .bool true)]) (own := [.box none 25 [.sl (c.Laws.map Law.av), .sl (c.Stills.map Still.av)], .box none 91 [.int .i64 x.Land, .int .i64 x.Days, .int .u8 (U8.i x.Means)]]) (obs := [CallA Tryz.prog GT 46 [.int .i64 x.Land, .int .i64 0, .int .i64 99] (.bool (within x.Land 0 99)), (!within x.Land 0 99) = true]) (by kernel_rfl) (by kernel_rfl) (⟨(within_ok46 _ _ _), by rw [hb3]; rfl⟩) fun ac wd hS => ?_
              refine cond_yes hS (c := true) (by kernel_rfl) rfl ?_
              refine runs_seq ?_
              refine reg [] [2] hG hS (env := [(2, .bool false)]) (own := [.box none 25 [.sl (c.Laws.map Law.av), .sl (c.Stills.map Still.av)], .box none 91 [.int .i64 x.Land, .int .i64 x.Days, .int .u8 (U8.i x.Means)]]) (obs := []) (by kernel_rfl) (trivial) fun ac wd hS => ?_
              have e0 : chainB stillRef stillBad none c.Stills = false := by first | (refine chain_no1 hr2 ?_; simp only [stillRef, hb1, hb2, hb3, Bool.and_true, Bool.true_and, Bool.and_false, Bool.false_and, Bool.or_true, Bool.true_or, Bool.or_false, Bool.false_or, Bool.not_true, Bool.not_false]; done) | (refine chain_no2 hp hr2 ?_; simp only [stillBad, hb1, hb2, hb3, Bool.and_true, Bool.true_and, Bool.and_false, Bool.false_and, Bool.or_true, Bool.true_or, Bool.or_false, Bool.false_or, Bool.not_true, Bool.not_false]; done)
              rw [show (.bool (codeRefB c) : AV) = .bool false from by simp only [codeRefB, e0, Bool.and_true, Bool.true_and, Bool.and_false, Bool.false_and, Bool.or_true, Bool.true_or, Bool.or_false, Bool.false_or, Bool.not_true, Bool.not_false]]
              exact retz Tryz.func68 rfl hB hBd hS (by kernel_rfl) rfl
          · skip
            refine runs_seq ?_
            refine runs_seq ?_
            refine reg [(3, .is ((c.Stills.length : Nat) : Int)), (4, .dec true)] [1, 5, 95] hG hS (env := [(1, .box 0 0), (5, .int .i64 ((pre.length : Nat) : Int)), (95, .bool true)]) (own := [.box none 25 [.sl (c.Laws.map Law.av), .sl (c.Stills.map Still.av)]]) (obs := [((c.Stills.map Still.av).length : Int) = ((c.Stills.length : Nat) : Int), decide (((pre.length : Nat) : Int) < ((c.Stills.length : Nat) : Int)) = true]) (by kernel_rfl) (⟨len_map, (lt_yes hl)⟩) fun ac wd hS => ?_
            refine cond_yes hS (c := true) (by kernel_rfl) rfl ?_
            refine runs_skip ?_
            refine runs_seq ?_
            refine runs_block ?_
            refine runs_seq ?_
            refine reg [(3, .av (Still.av x))] [1, 5, 6] hG hS (env := [(1, .box 0 0), (5, .int .i64 ((pre.length : Nat) : Int)), (6, .box 1 0)]) (own := [.box none 25 [.sl (c.Laws.map Law.av), .sl (c.Stills.map Still.av)], .box none 91 [.int .i64 x.Land, .int .i64 x.Days, .int .u8 (U8.i x.Means)]]) (obs := [0 ≤ (((pre.length : Nat) : Int) : Int) ∧ (c.Stills.map Still.av : List AV)[(((pre.length : Nat) : Int) : Int).toNat]? = some (Still.av x)]) (by kernel_rfl) ((idx_ok hl)) fun ac wd hS => ?_
            refine runs_seq ?_
            rcases Bool.eq_false_or_eq_true (within x.Land 0 99) with hb6 | hb6
            · skip
              rcases Bool.eq_false_or_eq_true (within x.Days 1 100000) with hb7 | hb7
              · skip
                rcases Bool.eq_false_or_eq_true (decide ((U8.i x.Means) > 2)) with hb8 | hb8
                · skip
                  refine drw [(2, .av (.bool (within x.Land 0 99))), (4, .dec false), (7, .av (.bool (within x.Days 1 100000))), (10, .dec false), (15, .dec true)] [1, 5, 133] hG hS (env := [(1, .box 0 0), (5, .int .i64 ((pre.length : Nat) : Int)), (133, .bool true)]) (own := [.box none 25 [.sl (c.Laws.map Law.av), .sl (c.Stills.map Still.av)], .box none 91 [.int .i64 x.Land, .int .i64 x.Days, .int .u8 (U8.i x.Means)]]) (obs := [CallA Tryz.prog GT 46 [.int .i64 x.Land, .int .i64 0, .int .i64 99] (.bool (within x.Land 0 99)), (!within x.Land 0 99) = false, CallA Tryz.prog GT 46 [.int .i64 x.Days, .int .i64 1, .int .i64 100000] (.bool (within x.Days 1 100000)), (!within x.Days 1 100000) = false, decide ((U8.i x.Means) > 2) = true]) (by kernel_rfl) (by kernel_rfl) (⟨(within_ok46 _ _ _), by rw [hb6]; rfl, (within_ok46 _ _ _), by rw [hb7]; rfl, hb8⟩) fun ac wd hS => ?_
                  refine cond_yes hS (c := true) (by kernel_rfl) rfl ?_
                  refine runs_seq ?_
                  refine reg [] [2] hG hS (env := [(2, .bool false)]) (own := [.box none 25 [.sl (c.Laws.map Law.av), .sl (c.Stills.map Still.av)], .box none 91 [.int .i64 x.Land, .int .i64 x.Days, .int .u8 (U8.i x.Means)]]) (obs := []) (by kernel_rfl) (trivial) fun ac wd hS => ?_
                  have e0 : chainB stillRef stillBad none c.Stills = false := by first | (refine chain_no1 hr2 ?_; simp only [stillRef, hb1, hb2, hb6, hb7, hb8, Bool.and_true, Bool.true_and, Bool.and_false, Bool.false_and, Bool.or_true, Bool.true_or, Bool.or_false, Bool.false_or, Bool.not_true, Bool.not_false]; done) | (refine chain_no2 hp hr2 ?_; simp only [stillBad, hb1, hb2, hb6, hb7, hb8, Bool.and_true, Bool.true_and, Bool.and_false, Bool.false_and, Bool.or_true, Bool.true_or, Bool.or_false, Bool.false_or, Bool.not_true, Bool.not_false]; done)
                  rw [show (.bool (codeRefB c) : AV) = .bool false from by simp only [codeRefB, e0, Bool.and_true, Bool.true_and, Bool.and_false, Bool.false_and, Bool.or_true, Bool.true_or, Bool.or_false, Bool.false_or, Bool.not_true, Bool.not_false]]
                  exact retz Tryz.func68 rfl hB hBd hS (by kernel_rfl) rfl
                · skip
                  rcases Bool.eq_false_or_eq_true (decide (x.Land ≤ y.Land)) with hb9 | hb9
                  · skip
                    refine drw [(2, .av (.bool (within x.Land 0 99))), (4, .dec false), (7, .av (.bool (within x.Days 1 100000))), (10, .dec false), (15, .dec false), (18, .dec true), (25, .av (Still.av y)), (30, .dec true)] [1, 5, 133] hG hS (env := [(1, .box 0 0), (5, .int .i64 ((pre.length : Nat) : Int)), (133, .bool true)]) (own := [.box none 25 [.sl (c.Laws.map Law.av), .sl (c.Stills.map Still.av)], .box none 91 [.int .i64 x.Land, .int .i64 x.Days, .int .u8 (U8.i x.Means)]]) (obs := [CallA Tryz.prog GT 46 [.int .i64 x.Land, .int .i64 0, .int .i64 99] (.bool (within x.Land 0 99)), (!within x.Land 0 99) = false, CallA Tryz.prog GT 46 [.int .i64 x.Days, .int .i64 1, .int .i64 100000] (.bool (within x.Days 1 100000)), (!within x.Days 1 100000) = false, decide ((U8.i x.Means) > 2) = false, decide (((pre.length : Nat) : Int) > 0) = true, 0 ≤ (IntKind.i64.wrap (((pre.length : Nat) : Int) - 1) : Int) ∧ (c.Stills.map Still.av : List AV)[(IntKind.i64.wrap (((pre.length : Nat) : Int) - 1) : Int).toNat]? = some (Still.av y), decide (x.Land ≤ y.Land) = true]) (by kernel_rfl) (by kernel_rfl) (⟨(within_ok46 _ _ _), by rw [hb6]; rfl, (within_ok46 _ _ _), by rw [hb7]; rfl, hb8, (pos_yes hp), (idx_prev hl hp hc2), hb9⟩) fun ac wd hS => ?_
                    refine cond_yes hS (c := true) (by kernel_rfl) rfl ?_
                    refine runs_seq ?_
                    refine reg [] [2] hG hS (env := [(2, .bool false)]) (own := [.box none 25 [.sl (c.Laws.map Law.av), .sl (c.Stills.map Still.av)], .box none 91 [.int .i64 x.Land, .int .i64 x.Days, .int .u8 (U8.i x.Means)]]) (obs := []) (by kernel_rfl) (trivial) fun ac wd hS => ?_
                    have e0 : chainB stillRef stillBad none c.Stills = false := by first | (refine chain_no1 hr2 ?_; simp only [stillRef, hb1, hb2, hb6, hb7, hb8, hb9, Bool.and_true, Bool.true_and, Bool.and_false, Bool.false_and, Bool.or_true, Bool.true_or, Bool.or_false, Bool.false_or, Bool.not_true, Bool.not_false]; done) | (refine chain_no2 hp hr2 ?_; simp only [stillBad, hb1, hb2, hb6, hb7, hb8, hb9, Bool.and_true, Bool.true_and, Bool.and_false, Bool.false_and, Bool.or_true, Bool.true_or, Bool.or_false, Bool.false_or, Bool.not_true, Bool.not_false]; done)
                    rw [show (.bool (codeRefB c) : AV) = .bool false from by simp only [codeRefB, e0, Bool.and_true, Bool.true_and, Bool.and_false, Bool.false_and, Bool.or_true, Bool.true_or, Bool.or_false, Bool.false_or, Bool.not_true, Bool.not_false]]
                    exact retz Tryz.func68 rfl hB hBd hS (by kernel_rfl) rfl
                  · skip
                    refine drw [(2, .av (.bool (within x.Land 0 99))), (4, .dec false), (7, .av (.bool (within x.Days 1 100000))), (10, .dec false), (15, .dec false), (18, .dec true), (25, .av (Still.av y)), (30, .dec false)] [1, 5, 133] hG hS (env := [(1, .box 0 0), (5, .int .i64 ((pre.length : Nat) : Int)), (133, .bool false)]) (own := [.box none 25 [.sl (c.Laws.map Law.av), .sl (c.Stills.map Still.av)], .box none 91 [.int .i64 x.Land, .int .i64 x.Days, .int .u8 (U8.i x.Means)]]) (obs := [CallA Tryz.prog GT 46 [.int .i64 x.Land, .int .i64 0, .int .i64 99] (.bool (within x.Land 0 99)), (!within x.Land 0 99) = false, CallA Tryz.prog GT 46 [.int .i64 x.Days, .int .i64 1, .int .i64 100000] (.bool (within x.Days 1 100000)), (!within x.Days 1 100000) = false, decide ((U8.i x.Means) > 2) = false, decide (((pre.length : Nat) : Int) > 0) = true, 0 ≤ (IntKind.i64.wrap (((pre.length : Nat) : Int) - 1) : Int) ∧ (c.Stills.map Still.av : List AV)[(IntKind.i64.wrap (((pre.length : Nat) : Int) - 1) : Int).toNat]? = some (Still.av y), decide (x.Land ≤ y.Land) = false]) (by kernel_rfl) (by kernel_rfl) (⟨(within_ok46 _ _ _), by rw [hb6]; rfl, (within_ok46 _ _ _), by rw [hb7]; rfl, hb8, (pos_yes hp), (idx_prev hl hp hc2), hb9⟩) fun ac wd hS => ?_
                    refine cond_no hS (c := false) (by kernel_rfl) rfl ?_
                    refine runs_skip ?_
                    refine runs_inBlock ?_
                    refine reg [(1, .is (((pre ++ [x]).length : Nat) : Int))] [1, 5] hG hS (env := [(1, .box 0 0), (5, .int .i64 (((pre ++ [x]).length : Nat) : Int))]) (own := [.box none 25 [.sl (c.Laws.map Law.av), .sl (c.Stills.map Still.av)], .box none 91 [.int .i64 x.Land, .int .i64 x.Days, .int .u8 (U8.i x.Means)]]) (obs := [IntKind.i64.wrap (((pre.length : Nat) : Int) + 1) = (((pre ++ [x]).length : Nat) : Int)]) (by kernel_rfl) ((next_len hl hc2)) fun ac wd hS => ?_
                    refine runs_inLoop ?_
                    exact ihx _ _ (pre ++ [x])  (next_eq hl) (chain_some hp hr2 (by simp only [stillRef, hb1, hb2, hb6, hb7, hb8, hb9, Bool.and_true, Bool.true_and, Bool.and_false, Bool.false_and, Bool.or_true, Bool.true_or, Bool.or_false, Bool.false_or, Bool.not_true, Bool.not_false]) (by simp only [stillBad, hb1, hb2, hb6, hb7, hb8, hb9, Bool.and_true, Bool.true_and, Bool.and_false, Bool.false_and, Bool.or_true, Bool.true_or, Bool.or_false, Bool.false_or, Bool.not_true, Bool.not_false])) (hS.sel [0] [1, 5] (by kernel_rfl))
              · skip
                refine drw [(2, .av (.bool (within x.Land 0 99))), (4, .dec false), (7, .av (.bool (within x.Days 1 100000))), (10, .dec true)] [1, 5, 133] hG hS (env := [(1, .box 0 0), (5, .int .i64 ((pre.length : Nat) : Int)), (133, .bool true)]) (own := [.box none 25 [.sl (c.Laws.map Law.av), .sl (c.Stills.map Still.av)], .box none 91 [.int .i64 x.Land, .int .i64 x.Days, .int .u8 (U8.i x.Means)]]) (obs := [CallA Tryz.prog GT 46 [.int .i64 x.Land, .int .i64 0, .int .i64 99] (.bool (within x.Land 0 99)), (!within x.Land 0 99) = false, CallA Tryz.prog GT 46 [.int .i64 x.Days, .int .i64 1, .int .i64 100000] (.bool (within x.Days 1 100000)), (!within x.Days 1 100000) = true]) (by kernel_rfl) (by kernel_rfl) (⟨(within_ok46 _ _ _), by rw [hb6]; rfl, (within_ok46 _ _ _), by rw [hb7]; rfl⟩) fun ac wd hS => ?_
                refine cond_yes hS (c := true) (by kernel_rfl) rfl ?_
                refine runs_seq ?_
                refine reg [] [2] hG hS (env := [(2, .bool false)]) (own := [.box none 25 [.sl (c.Laws.map Law.av), .sl (c.Stills.map Still.av)], .box none 91 [.int .i64 x.Land, .int .i64 x.Days, .int .u8 (U8.i x.Means)]]) (obs := []) (by kernel_rfl) (trivial) fun ac wd hS => ?_
                have e0 : chainB stillRef stillBad none c.Stills = false := by first | (refine chain_no1 hr2 ?_; simp only [stillRef, hb1, hb2, hb6, hb7, Bool.and_true, Bool.true_and, Bool.and_false, Bool.false_and, Bool.or_true, Bool.true_or, Bool.or_false, Bool.false_or, Bool.not_true, Bool.not_false]; done) | (refine chain_no2 hp hr2 ?_; simp only [stillBad, hb1, hb2, hb6, hb7, Bool.and_true, Bool.true_and, Bool.and_false, Bool.false_and, Bool.or_true, Bool.true_or, Bool.or_false, Bool.false_or, Bool.not_true, Bool.not_false]; done)
                rw [show (.bool (codeRefB c) : AV) = .bool false from by simp only [codeRefB, e0, Bool.and_true, Bool.true_and, Bool.and_false, Bool.false_and, Bool.or_true, Bool.true_or, Bool.or_false, Bool.false_or, Bool.not_true, Bool.not_false]]
                exact retz Tryz.func68 rfl hB hBd hS (by kernel_rfl) rfl
            · skip
              refine drw [(2, .av (.bool (within x.Land 0 99))), (4, .dec true)] [1, 5, 133] hG hS (env := [(1, .box 0 0), (5, .int .i64 ((pre.length : Nat) : Int)), (133, .bool true)]) (own := [.box none 25 [.sl (c.Laws.map Law.av), .sl (c.Stills.map Still.av)], .box none 91 [.int .i64 x.Land, .int .i64 x.Days, .int .u8 (U8.i x.Means)]]) (obs := [CallA Tryz.prog GT 46 [.int .i64 x.Land, .int .i64 0, .int .i64 99] (.bool (within x.Land 0 99)), (!within x.Land 0 99) = true]) (by kernel_rfl) (by kernel_rfl) (⟨(within_ok46 _ _ _), by rw [hb6]; rfl⟩) fun ac wd hS => ?_
              refine cond_yes hS (c := true) (by kernel_rfl) rfl ?_
              refine runs_seq ?_
              refine reg [] [2] hG hS (env := [(2, .bool false)]) (own := [.box none 25 [.sl (c.Laws.map Law.av), .sl (c.Stills.map Still.av)], .box none 91 [.int .i64 x.Land, .int .i64 x.Days, .int .u8 (U8.i x.Means)]]) (obs := []) (by kernel_rfl) (trivial) fun ac wd hS => ?_
              have e0 : chainB stillRef stillBad none c.Stills = false := by first | (refine chain_no1 hr2 ?_; simp only [stillRef, hb1, hb2, hb6, Bool.and_true, Bool.true_and, Bool.and_false, Bool.false_and, Bool.or_true, Bool.true_or, Bool.or_false, Bool.false_or, Bool.not_true, Bool.not_false]; done) | (refine chain_no2 hp hr2 ?_; simp only [stillBad, hb1, hb2, hb6, Bool.and_true, Bool.true_and, Bool.and_false, Bool.false_and, Bool.or_true, Bool.true_or, Bool.or_false, Bool.false_or, Bool.not_true, Bool.not_false]; done)
              rw [show (.bool (codeRefB c) : AV) = .bool false from by simp only [codeRefB, e0, Bool.and_true, Bool.true_and, Bool.and_false, Bool.false_and, Bool.or_true, Bool.true_or, Bool.or_false, Bool.false_or, Bool.not_true, Bool.not_false]]
              exact retz Tryz.func68 rfl hB hBd hS (by kernel_rfl) rfl
      | cons x rest ihx =>
        rcases snoc_cases pre with hp | ⟨pr, y, hp⟩
        · skip
          refine runs_seq ?_
          refine runs_seq ?_
          refine reg [(3, .is ((c.Laws.length : Nat) : Int)), (4, .dec true)] [1, 3, 21] hG hS (env := [(1, .box 0 0), (3, .int .i64 ((pre.length : Nat) : Int)), (21, .bool true)]) (own := [.box none 25 [.sl (c.Laws.map Law.av), .sl (c.Stills.map Still.av)]]) (obs := [((c.Laws.map Law.av).length : Int) = ((c.Laws.length : Nat) : Int), decide (((pre.length : Nat) : Int) < ((c.Laws.length : Nat) : Int)) = true]) (by kernel_rfl) (⟨len_map, (lt_yes hl)⟩) fun ac wd hS => ?_
          refine cond_yes hS (c := true) (by kernel_rfl) rfl ?_
          refine runs_skip ?_
          refine runs_seq ?_
          refine runs_block ?_
          refine runs_seq ?_
          refine reg [(3, .av (Law.av x))] [1, 3, 4] hG hS (env := [(1, .box 0 0), (3, .int .i64 ((pre.length : Nat) : Int)), (4, .box 1 0)]) (own := [.box none 25 [.sl (c.Laws.map Law.av), .sl (c.Stills.map Still.av)], .box none 66 [.int .i64 x.Land, .int .u8 (U8.i x.Kind), .int .u8 (U8.i x.Base), .int .i64 x.Keep]]) (obs := [0 ≤ (((pre.length : Nat) : Int) : Int) ∧ (c.Laws.map Law.av : List AV)[(((pre.length : Nat) : Int) : Int).toNat]? = some (Law.av x)]) (by kernel_rfl) ((idx_ok hl)) fun ac wd hS => ?_
          refine runs_seq ?_
          refine runs_seq ?_
          rcases Bool.eq_false_or_eq_true (within x.Land 0 99) with hb10 | hb10
          · skip
            rcases Bool.eq_false_or_eq_true (within (U8.i x.Kind) 1 7) with hb11 | hb11
            · skip
              rcases Bool.eq_false_or_eq_true (within (U8.i x.Base) 1 3) with hb12 | hb12
              · skip
                rcases Bool.eq_false_or_eq_true (within x.Keep 0 100000) with hb13 | hb13
                · skip
                  refine reg [(2, .av (.bool (within x.Land 0 99))), (4, .dec false), (7, .is (U8.i x.Kind)), (8, .av (.bool (within (U8.i x.Kind) 1 7))), (11, .dec false), (14, .is (U8.i x.Base)), (15, .av (.bool (within (U8.i x.Base) 1 3))), (18, .dec false), (21, .av (.bool (within x.Keep 0 100000))), (23, .dec false)] [1, 3, 4, 52] hG hS (env := [(1, .box 0 0), (3, .int .i64 ((pre.length : Nat) : Int)), (4, .box 1 0), (52, .bool false)]) (own := [.box none 25 [.sl (c.Laws.map Law.av), .sl (c.Stills.map Still.av)], .box none 66 [.int .i64 x.Land, .int .u8 (U8.i x.Kind), .int .u8 (U8.i x.Base), .int .i64 x.Keep]]) (obs := [CallA Tryz.prog GT 46 [.int .i64 x.Land, .int .i64 0, .int .i64 99] (.bool (within x.Land 0 99)), (!within x.Land 0 99) = false, IntKind.i64.wrap (U8.i x.Kind) = (U8.i x.Kind), CallA Tryz.prog GT 46 [.int .i64 (U8.i x.Kind), .int .i64 1, .int .i64 7] (.bool (within (U8.i x.Kind) 1 7)), (!within (U8.i x.Kind) 1 7) = false, IntKind.i64.wrap (U8.i x.Base) = (U8.i x.Base), CallA Tryz.prog GT 46 [.int .i64 (U8.i x.Base), .int .i64 1, .int .i64 3] (.bool (within (U8.i x.Base) 1 3)), (!within (U8.i x.Base) 1 3) = false, CallA Tryz.prog GT 46 [.int .i64 x.Keep, .int .i64 0, .int .i64 100000] (.bool (within x.Keep 0 100000)), (!within x.Keep 0 100000) = false]) (by kernel_rfl) (⟨(within_ok46 _ _ _), by rw [hb10]; rfl, (wrap_u8 _), (within_ok46 _ _ _), by rw [hb11]; rfl, (wrap_u8 _), (within_ok46 _ _ _), by rw [hb12]; rfl, (within_ok46 _ _ _), by rw [hb13]; rfl⟩) fun ac wd hS => ?_
                  refine cond_no hS (c := false) (by kernel_rfl) rfl ?_
                  refine runs_skip ?_
                  refine runs_seq ?_
                  refine drw [(2, .dec false)] [1, 3, 90] hG hS (env := [(1, .box 0 0), (3, .int .i64 ((pre.length : Nat) : Int)), (90, .bool false)]) (own := [.box none 25 [.sl (c.Laws.map Law.av), .sl (c.Stills.map Still.av)], .box none 66 [.int .i64 x.Land, .int .u8 (U8.i x.Kind), .int .u8 (U8.i x.Base), .int .i64 x.Keep]]) (obs := [decide (((pre.length : Nat) : Int) > 0) = false]) (by kernel_rfl) (by kernel_rfl) ((pos_no hp)) fun ac wd hS => ?_
                  refine cond_no hS (c := false) (by kernel_rfl) rfl ?_
                  refine runs_skip ?_
                  refine runs_inBlock ?_
                  refine reg [(1, .is (((pre ++ [x]).length : Nat) : Int))] [1, 3] hG hS (env := [(1, .box 0 0), (3, .int .i64 (((pre ++ [x]).length : Nat) : Int))]) (own := [.box none 25 [.sl (c.Laws.map Law.av), .sl (c.Stills.map Still.av)], .box none 66 [.int .i64 x.Land, .int .u8 (U8.i x.Kind), .int .u8 (U8.i x.Base), .int .i64 x.Keep]]) (obs := [IntKind.i64.wrap (((pre.length : Nat) : Int) + 1) = (((pre ++ [x]).length : Nat) : Int)]) (by kernel_rfl) ((next_len hl hc1)) fun ac wd hS => ?_
                  refine runs_inLoop ?_
                  exact ihx _ _ (pre ++ [x])  (next_eq hl) (chain_nil hp hr (by simp only [lawRef, hb1, hb2, hb10, hb11, hb12, hb13, Bool.and_true, Bool.true_and, Bool.and_false, Bool.false_and, Bool.or_true, Bool.true_or, Bool.or_false, Bool.false_or, Bool.not_true, Bool.not_false])) (hS.sel [0] [1, 3] (by kernel_rfl))
                · skip
                  refine reg [(2, .av (.bool (within x.Land 0 99))), (4, .dec false), (7, .is (U8.i x.Kind)), (8, .av (.bool (within (U8.i x.Kind) 1 7))), (11, .dec false), (14, .is (U8.i x.Base)), (15, .av (.bool (within (U8.i x.Base) 1 3))), (18, .dec false), (21, .av (.bool (within x.Keep 0 100000))), (23, .dec true)] [1, 3, 4, 52] hG hS (env := [(1, .box 0 0), (3, .int .i64 ((pre.length : Nat) : Int)), (4, .box 1 0), (52, .bool true)]) (own := [.box none 25 [.sl (c.Laws.map Law.av), .sl (c.Stills.map Still.av)], .box none 66 [.int .i64 x.Land, .int .u8 (U8.i x.Kind), .int .u8 (U8.i x.Base), .int .i64 x.Keep]]) (obs := [CallA Tryz.prog GT 46 [.int .i64 x.Land, .int .i64 0, .int .i64 99] (.bool (within x.Land 0 99)), (!within x.Land 0 99) = false, IntKind.i64.wrap (U8.i x.Kind) = (U8.i x.Kind), CallA Tryz.prog GT 46 [.int .i64 (U8.i x.Kind), .int .i64 1, .int .i64 7] (.bool (within (U8.i x.Kind) 1 7)), (!within (U8.i x.Kind) 1 7) = false, IntKind.i64.wrap (U8.i x.Base) = (U8.i x.Base), CallA Tryz.prog GT 46 [.int .i64 (U8.i x.Base), .int .i64 1, .int .i64 3] (.bool (within (U8.i x.Base) 1 3)), (!within (U8.i x.Base) 1 3) = false, CallA Tryz.prog GT 46 [.int .i64 x.Keep, .int .i64 0, .int .i64 100000] (.bool (within x.Keep 0 100000)), (!within x.Keep 0 100000) = true]) (by kernel_rfl) (⟨(within_ok46 _ _ _), by rw [hb10]; rfl, (wrap_u8 _), (within_ok46 _ _ _), by rw [hb11]; rfl, (wrap_u8 _), (within_ok46 _ _ _), by rw [hb12]; rfl, (within_ok46 _ _ _), by rw [hb13]; rfl⟩) fun ac wd hS => ?_
                  refine cond_yes hS (c := true) (by kernel_rfl) rfl ?_
                  refine runs_seq ?_
                  refine reg [] [2] hG hS (env := [(2, .bool false)]) (own := [.box none 25 [.sl (c.Laws.map Law.av), .sl (c.Stills.map Still.av)], .box none 66 [.int .i64 x.Land, .int .u8 (U8.i x.Kind), .int .u8 (U8.i x.Base), .int .i64 x.Keep]]) (obs := []) (by kernel_rfl) (trivial) fun ac wd hS => ?_
                  have e0 : chainB lawRef lawBad none c.Laws = false := by first | (refine chain_no1 hr ?_; simp only [lawRef, hb1, hb2, hb10, hb11, hb12, hb13, Bool.and_true, Bool.true_and, Bool.and_false, Bool.false_and, Bool.or_true, Bool.true_or, Bool.or_false, Bool.false_or, Bool.not_true, Bool.not_false]; done) | (refine chain_no2 hp hr ?_; simp only [lawBad, hb1, hb2, hb10, hb11, hb12, hb13, Bool.and_true, Bool.true_and, Bool.and_false, Bool.false_and, Bool.or_true, Bool.true_or, Bool.or_false, Bool.false_or, Bool.not_true, Bool.not_false]; done)
                  rw [show (.bool (codeRefB c) : AV) = .bool false from by simp only [codeRefB, e0, Bool.and_true, Bool.true_and, Bool.and_false, Bool.false_and, Bool.or_true, Bool.true_or, Bool.or_false, Bool.false_or, Bool.not_true, Bool.not_false]]
                  exact retz Tryz.func68 rfl hB hBd hS (by kernel_rfl) rfl
              · skip
                refine reg [(2, .av (.bool (within x.Land 0 99))), (4, .dec false), (7, .is (U8.i x.Kind)), (8, .av (.bool (within (U8.i x.Kind) 1 7))), (11, .dec false), (14, .is (U8.i x.Base)), (15, .av (.bool (within (U8.i x.Base) 1 3))), (18, .dec true)] [1, 3, 4, 52] hG hS (env := [(1, .box 0 0), (3, .int .i64 ((pre.length : Nat) : Int)), (4, .box 1 0), (52, .bool true)]) (own := [.box none 25 [.sl (c.Laws.map Law.av), .sl (c.Stills.map Still.av)], .box none 66 [.int .i64 x.Land, .int .u8 (U8.i x.Kind), .int .u8 (U8.i x.Base), .int .i64 x.Keep]]) (obs := [CallA Tryz.prog GT 46 [.int .i64 x.Land, .int .i64 0, .int .i64 99] (.bool (within x.Land 0 99)), (!within x.Land 0 99) = false, IntKind.i64.wrap (U8.i x.Kind) = (U8.i x.Kind), CallA Tryz.prog GT 46 [.int .i64 (U8.i x.Kind), .int .i64 1, .int .i64 7] (.bool (within (U8.i x.Kind) 1 7)), (!within (U8.i x.Kind) 1 7) = false, IntKind.i64.wrap (U8.i x.Base) = (U8.i x.Base), CallA Tryz.prog GT 46 [.int .i64 (U8.i x.Base), .int .i64 1, .int .i64 3] (.bool (within (U8.i x.Base) 1 3)), (!within (U8.i x.Base) 1 3) = true]) (by kernel_rfl) (⟨(within_ok46 _ _ _), by rw [hb10]; rfl, (wrap_u8 _), (within_ok46 _ _ _), by rw [hb11]; rfl, (wrap_u8 _), (within_ok46 _ _ _), by rw [hb12]; rfl⟩) fun ac wd hS => ?_
                refine cond_yes hS (c := true) (by kernel_rfl) rfl ?_
                refine runs_seq ?_
                refine reg [] [2] hG hS (env := [(2, .bool false)]) (own := [.box none 25 [.sl (c.Laws.map Law.av), .sl (c.Stills.map Still.av)], .box none 66 [.int .i64 x.Land, .int .u8 (U8.i x.Kind), .int .u8 (U8.i x.Base), .int .i64 x.Keep]]) (obs := []) (by kernel_rfl) (trivial) fun ac wd hS => ?_
                have e0 : chainB lawRef lawBad none c.Laws = false := by first | (refine chain_no1 hr ?_; simp only [lawRef, hb1, hb2, hb10, hb11, hb12, Bool.and_true, Bool.true_and, Bool.and_false, Bool.false_and, Bool.or_true, Bool.true_or, Bool.or_false, Bool.false_or, Bool.not_true, Bool.not_false]; done) | (refine chain_no2 hp hr ?_; simp only [lawBad, hb1, hb2, hb10, hb11, hb12, Bool.and_true, Bool.true_and, Bool.and_false, Bool.false_and, Bool.or_true, Bool.true_or, Bool.or_false, Bool.false_or, Bool.not_true, Bool.not_false]; done)
                rw [show (.bool (codeRefB c) : AV) = .bool false from by simp only [codeRefB, e0, Bool.and_true, Bool.true_and, Bool.and_false, Bool.false_and, Bool.or_true, Bool.true_or, Bool.or_false, Bool.false_or, Bool.not_true, Bool.not_false]]
                exact retz Tryz.func68 rfl hB hBd hS (by kernel_rfl) rfl
            · skip
              refine reg [(2, .av (.bool (within x.Land 0 99))), (4, .dec false), (7, .is (U8.i x.Kind)), (8, .av (.bool (within (U8.i x.Kind) 1 7))), (11, .dec true)] [1, 3, 4, 52] hG hS (env := [(1, .box 0 0), (3, .int .i64 ((pre.length : Nat) : Int)), (4, .box 1 0), (52, .bool true)]) (own := [.box none 25 [.sl (c.Laws.map Law.av), .sl (c.Stills.map Still.av)], .box none 66 [.int .i64 x.Land, .int .u8 (U8.i x.Kind), .int .u8 (U8.i x.Base), .int .i64 x.Keep]]) (obs := [CallA Tryz.prog GT 46 [.int .i64 x.Land, .int .i64 0, .int .i64 99] (.bool (within x.Land 0 99)), (!within x.Land 0 99) = false, IntKind.i64.wrap (U8.i x.Kind) = (U8.i x.Kind), CallA Tryz.prog GT 46 [.int .i64 (U8.i x.Kind), .int .i64 1, .int .i64 7] (.bool (within (U8.i x.Kind) 1 7)), (!within (U8.i x.Kind) 1 7) = true]) (by kernel_rfl) (⟨(within_ok46 _ _ _), by rw [hb10]; rfl, (wrap_u8 _), (within_ok46 _ _ _), by rw [hb11]; rfl⟩) fun ac wd hS => ?_
              refine cond_yes hS (c := true) (by kernel_rfl) rfl ?_
              refine runs_seq ?_
              refine reg [] [2] hG hS (env := [(2, .bool false)]) (own := [.box none 25 [.sl (c.Laws.map Law.av), .sl (c.Stills.map Still.av)], .box none 66 [.int .i64 x.Land, .int .u8 (U8.i x.Kind), .int .u8 (U8.i x.Base), .int .i64 x.Keep]]) (obs := []) (by kernel_rfl) (trivial) fun ac wd hS => ?_
              have e0 : chainB lawRef lawBad none c.Laws = false := by first | (refine chain_no1 hr ?_; simp only [lawRef, hb1, hb2, hb10, hb11, Bool.and_true, Bool.true_and, Bool.and_false, Bool.false_and, Bool.or_true, Bool.true_or, Bool.or_false, Bool.false_or, Bool.not_true, Bool.not_false]; done) | (refine chain_no2 hp hr ?_; simp only [lawBad, hb1, hb2, hb10, hb11, Bool.and_true, Bool.true_and, Bool.and_false, Bool.false_and, Bool.or_true, Bool.true_or, Bool.or_false, Bool.false_or, Bool.not_true, Bool.not_false]; done)
              rw [show (.bool (codeRefB c) : AV) = .bool false from by simp only [codeRefB, e0, Bool.and_true, Bool.true_and, Bool.and_false, Bool.false_and, Bool.or_true, Bool.true_or, Bool.or_false, Bool.false_or, Bool.not_true, Bool.not_false]]
              exact retz Tryz.func68 rfl hB hBd hS (by kernel_rfl) rfl
          · skip
            refine reg [(2, .av (.bool (within x.Land 0 99))), (4, .dec true)] [1, 3, 4, 52] hG hS (env := [(1, .box 0 0), (3, .int .i64 ((pre.length : Nat) : Int)), (4, .box 1 0), (52, .bool true)]) (own := [.box none 25 [.sl (c.Laws.map Law.av), .sl (c.Stills.map Still.av)], .box none 66 [.int .i64 x.Land, .int .u8 (U8.i x.Kind), .int .u8 (U8.i x.Base), .int .i64 x.Keep]]) (obs := [CallA Tryz.prog GT 46 [.int .i64 x.Land, .int .i64 0, .int .i64 99] (.bool (within x.Land 0 99)), (!within x.Land 0 99) = true]) (by kernel_rfl) (⟨(within_ok46 _ _ _), by rw [hb10]; rfl⟩) fun ac wd hS => ?_
            refine cond_yes hS (c := true) (by kernel_rfl) rfl ?_
            refine runs_seq ?_
            refine reg [] [2] hG hS (env := [(2, .bool false)]) (own := [.box none 25 [.sl (c.Laws.map Law.av), .sl (c.Stills.map Still.av)], .box none 66 [.int .i64 x.Land, .int .u8 (U8.i x.Kind), .int .u8 (U8.i x.Base), .int .i64 x.Keep]]) (obs := []) (by kernel_rfl) (trivial) fun ac wd hS => ?_
            have e0 : chainB lawRef lawBad none c.Laws = false := by first | (refine chain_no1 hr ?_; simp only [lawRef, hb1, hb2, hb10, Bool.and_true, Bool.true_and, Bool.and_false, Bool.false_and, Bool.or_true, Bool.true_or, Bool.or_false, Bool.false_or, Bool.not_true, Bool.not_false]; done) | (refine chain_no2 hp hr ?_; simp only [lawBad, hb1, hb2, hb10, Bool.and_true, Bool.true_and, Bool.and_false, Bool.false_and, Bool.or_true, Bool.true_or, Bool.or_false, Bool.false_or, Bool.not_true, Bool.not_false]; done)
            rw [show (.bool (codeRefB c) : AV) = .bool false from by simp only [codeRefB, e0, Bool.and_true, Bool.true_and, Bool.and_false, Bool.false_and, Bool.or_true, Bool.true_or, Bool.or_false, Bool.false_or, Bool.not_true, Bool.not_false]]
            exact retz Tryz.func68 rfl hB hBd hS (by kernel_rfl) rfl
        · skip
          refine runs_seq ?_
          refine runs_seq ?_
          refine reg [(3, .is ((c.Laws.length : Nat) : Int)), (4, .dec true)] [1, 3, 21] hG hS (env := [(1, .box 0 0), (3, .int .i64 ((pre.length : Nat) : Int)), (21, .bool true)]) (own := [.box none 25 [.sl (c.Laws.map Law.av), .sl (c.Stills.map Still.av)]]) (obs := [((c.Laws.map Law.av).length : Int) = ((c.Laws.length : Nat) : Int), decide (((pre.length : Nat) : Int) < ((c.Laws.length : Nat) : Int)) = true]) (by kernel_rfl) (⟨len_map, (lt_yes hl)⟩) fun ac wd hS => ?_
          refine cond_yes hS (c := true) (by kernel_rfl) rfl ?_
          refine runs_skip ?_
          refine runs_seq ?_
          refine runs_block ?_
          refine runs_seq ?_
          refine reg [(3, .av (Law.av x))] [1, 3, 4] hG hS (env := [(1, .box 0 0), (3, .int .i64 ((pre.length : Nat) : Int)), (4, .box 1 0)]) (own := [.box none 25 [.sl (c.Laws.map Law.av), .sl (c.Stills.map Still.av)], .box none 66 [.int .i64 x.Land, .int .u8 (U8.i x.Kind), .int .u8 (U8.i x.Base), .int .i64 x.Keep]]) (obs := [0 ≤ (((pre.length : Nat) : Int) : Int) ∧ (c.Laws.map Law.av : List AV)[(((pre.length : Nat) : Int) : Int).toNat]? = some (Law.av x)]) (by kernel_rfl) ((idx_ok hl)) fun ac wd hS => ?_
          refine runs_seq ?_
          refine runs_seq ?_
          rcases Bool.eq_false_or_eq_true (within x.Land 0 99) with hb14 | hb14
          · skip
            rcases Bool.eq_false_or_eq_true (within (U8.i x.Kind) 1 7) with hb15 | hb15
            · skip
              rcases Bool.eq_false_or_eq_true (within (U8.i x.Base) 1 3) with hb16 | hb16
              · skip
                rcases Bool.eq_false_or_eq_true (within x.Keep 0 100000) with hb17 | hb17
                · skip
                  refine reg [(2, .av (.bool (within x.Land 0 99))), (4, .dec false), (7, .is (U8.i x.Kind)), (8, .av (.bool (within (U8.i x.Kind) 1 7))), (11, .dec false), (14, .is (U8.i x.Base)), (15, .av (.bool (within (U8.i x.Base) 1 3))), (18, .dec false), (21, .av (.bool (within x.Keep 0 100000))), (23, .dec false)] [1, 3, 4, 52] hG hS (env := [(1, .box 0 0), (3, .int .i64 ((pre.length : Nat) : Int)), (4, .box 1 0), (52, .bool false)]) (own := [.box none 25 [.sl (c.Laws.map Law.av), .sl (c.Stills.map Still.av)], .box none 66 [.int .i64 x.Land, .int .u8 (U8.i x.Kind), .int .u8 (U8.i x.Base), .int .i64 x.Keep]]) (obs := [CallA Tryz.prog GT 46 [.int .i64 x.Land, .int .i64 0, .int .i64 99] (.bool (within x.Land 0 99)), (!within x.Land 0 99) = false, IntKind.i64.wrap (U8.i x.Kind) = (U8.i x.Kind), CallA Tryz.prog GT 46 [.int .i64 (U8.i x.Kind), .int .i64 1, .int .i64 7] (.bool (within (U8.i x.Kind) 1 7)), (!within (U8.i x.Kind) 1 7) = false, IntKind.i64.wrap (U8.i x.Base) = (U8.i x.Base), CallA Tryz.prog GT 46 [.int .i64 (U8.i x.Base), .int .i64 1, .int .i64 3] (.bool (within (U8.i x.Base) 1 3)), (!within (U8.i x.Base) 1 3) = false, CallA Tryz.prog GT 46 [.int .i64 x.Keep, .int .i64 0, .int .i64 100000] (.bool (within x.Keep 0 100000)), (!within x.Keep 0 100000) = false]) (by kernel_rfl) (⟨(within_ok46 _ _ _), by rw [hb14]; rfl, (wrap_u8 _), (within_ok46 _ _ _), by rw [hb15]; rfl, (wrap_u8 _), (within_ok46 _ _ _), by rw [hb16]; rfl, (within_ok46 _ _ _), by rw [hb17]; rfl⟩) fun ac wd hS => ?_
                  refine cond_no hS (c := false) (by kernel_rfl) rfl ?_
                  refine runs_skip ?_
                  refine runs_seq ?_
                  rcases Bool.eq_false_or_eq_true (decide (x.Land < y.Land)) with hb18 | hb18
                  · skip
                    refine drw [(2, .dec true), (9, .av (Law.av y)), (13, .dec true)] [1, 3, 90] hG hS (env := [(1, .box 0 0), (3, .int .i64 ((pre.length : Nat) : Int)), (90, .bool true)]) (own := [.box none 25 [.sl (c.Laws.map Law.av), .sl (c.Stills.map Still.av)], .box none 66 [.int .i64 x.Land, .int .u8 (U8.i x.Kind), .int .u8 (U8.i x.Base), .int .i64 x.Keep]]) (obs := [decide (((pre.length : Nat) : Int) > 0) = true, 0 ≤ (IntKind.i64.wrap (((pre.length : Nat) : Int) - 1) : Int) ∧ (c.Laws.map Law.av : List AV)[(IntKind.i64.wrap (((pre.length : Nat) : Int) - 1) : Int).toNat]? = some (Law.av y), decide (x.Land < y.Land) = true]) (by kernel_rfl) (by kernel_rfl) (⟨(pos_yes hp), (idx_prev hl hp hc1), hb18⟩) fun ac wd hS => ?_
                    refine cond_yes hS (c := true) (by kernel_rfl) rfl ?_
                    refine runs_seq ?_
                    refine reg [] [2] hG hS (env := [(2, .bool false)]) (own := [.box none 25 [.sl (c.Laws.map Law.av), .sl (c.Stills.map Still.av)], .box none 66 [.int .i64 x.Land, .int .u8 (U8.i x.Kind), .int .u8 (U8.i x.Base), .int .i64 x.Keep]]) (obs := []) (by kernel_rfl) (trivial) fun ac wd hS => ?_
                    have e0 : chainB lawRef lawBad none c.Laws = false := by first | (refine chain_no1 hr ?_; simp only [lawRef, hb1, hb2, hb14, hb15, hb16, hb17, hb18, Bool.and_true, Bool.true_and, Bool.and_false, Bool.false_and, Bool.or_true, Bool.true_or, Bool.or_false, Bool.false_or, Bool.not_true, Bool.not_false]; done) | (refine chain_no2 hp hr ?_; simp only [lawBad, hb1, hb2, hb14, hb15, hb16, hb17, hb18, Bool.and_true, Bool.true_and, Bool.and_false, Bool.false_and, Bool.or_true, Bool.true_or, Bool.or_false, Bool.false_or, Bool.not_true, Bool.not_false]; done)
                    rw [show (.bool (codeRefB c) : AV) = .bool false from by simp only [codeRefB, e0, Bool.and_true, Bool.true_and, Bool.and_false, Bool.false_and, Bool.or_true, Bool.true_or, Bool.or_false, Bool.false_or, Bool.not_true, Bool.not_false]]
                    exact retz Tryz.func68 rfl hB hBd hS (by kernel_rfl) rfl
                  · skip
                    rcases Bool.eq_false_or_eq_true ((x.Land == y.Land)) with hb19 | hb19
                    · skip
                      rcases Bool.eq_false_or_eq_true (decide ((U8.i x.Kind) ≤ (U8.i y.Kind))) with hb20 | hb20
                      · skip
                        refine drw [(2, .dec true), (9, .av (Law.av y)), (13, .dec false), (20, .av (Law.av y)), (24, .dec true), (31, .av (Law.av y)), (37, .dec true)] [1, 3, 90] hG hS (env := [(1, .box 0 0), (3, .int .i64 ((pre.length : Nat) : Int)), (90, .bool true)]) (own := [.box none 25 [.sl (c.Laws.map Law.av), .sl (c.Stills.map Still.av)], .box none 66 [.int .i64 x.Land, .int .u8 (U8.i x.Kind), .int .u8 (U8.i x.Base), .int .i64 x.Keep]]) (obs := [decide (((pre.length : Nat) : Int) > 0) = true, 0 ≤ (IntKind.i64.wrap (((pre.length : Nat) : Int) - 1) : Int) ∧ (c.Laws.map Law.av : List AV)[(IntKind.i64.wrap (((pre.length : Nat) : Int) - 1) : Int).toNat]? = some (Law.av y), decide (x.Land < y.Land) = false, 0 ≤ (IntKind.i64.wrap (((pre.length : Nat) : Int) - 1) : Int) ∧ (c.Laws.map Law.av : List AV)[(IntKind.i64.wrap (((pre.length : Nat) : Int) - 1) : Int).toNat]? = some (Law.av y), (x.Land == y.Land) = true, 0 ≤ (IntKind.i64.wrap (((pre.length : Nat) : Int) - 1) : Int) ∧ (c.Laws.map Law.av : List AV)[(IntKind.i64.wrap (((pre.length : Nat) : Int) - 1) : Int).toNat]? = some (Law.av y), decide ((U8.i x.Kind) ≤ (U8.i y.Kind)) = true]) (by kernel_rfl) (by kernel_rfl) (⟨(pos_yes hp), (idx_prev hl hp hc1), hb18, (idx_prev hl hp hc1), hb19, (idx_prev hl hp hc1), hb20⟩) fun ac wd hS => ?_
                        refine cond_yes hS (c := true) (by kernel_rfl) rfl ?_
                        refine runs_seq ?_
                        refine reg [] [2] hG hS (env := [(2, .bool false)]) (own := [.box none 25 [.sl (c.Laws.map Law.av), .sl (c.Stills.map Still.av)], .box none 66 [.int .i64 x.Land, .int .u8 (U8.i x.Kind), .int .u8 (U8.i x.Base), .int .i64 x.Keep]]) (obs := []) (by kernel_rfl) (trivial) fun ac wd hS => ?_
                        have e0 : chainB lawRef lawBad none c.Laws = false := by first | (refine chain_no1 hr ?_; simp only [lawRef, hb1, hb2, hb14, hb15, hb16, hb17, hb18, hb19, hb20, Bool.and_true, Bool.true_and, Bool.and_false, Bool.false_and, Bool.or_true, Bool.true_or, Bool.or_false, Bool.false_or, Bool.not_true, Bool.not_false]; done) | (refine chain_no2 hp hr ?_; simp only [lawBad, hb1, hb2, hb14, hb15, hb16, hb17, hb18, hb19, hb20, Bool.and_true, Bool.true_and, Bool.and_false, Bool.false_and, Bool.or_true, Bool.true_or, Bool.or_false, Bool.false_or, Bool.not_true, Bool.not_false]; done)
                        rw [show (.bool (codeRefB c) : AV) = .bool false from by simp only [codeRefB, e0, Bool.and_true, Bool.true_and, Bool.and_false, Bool.false_and, Bool.or_true, Bool.true_or, Bool.or_false, Bool.false_or, Bool.not_true, Bool.not_false]]
                        exact retz Tryz.func68 rfl hB hBd hS (by kernel_rfl) rfl
                      · skip
                        refine drw [(2, .dec true), (9, .av (Law.av y)), (13, .dec false), (20, .av (Law.av y)), (24, .dec true), (31, .av (Law.av y)), (37, .dec false)] [1, 3, 90] hG hS (env := [(1, .box 0 0), (3, .int .i64 ((pre.length : Nat) : Int)), (90, .bool false)]) (own := [.box none 25 [.sl (c.Laws.map Law.av), .sl (c.Stills.map Still.av)], .box none 66 [.int .i64 x.Land, .int .u8 (U8.i x.Kind), .int .u8 (U8.i x.Base), .int .i64 x.Keep]]) (obs := [decide (((pre.length : Nat) : Int) > 0) = true, 0 ≤ (IntKind.i64.wrap (((pre.length : Nat) : Int) - 1) : Int) ∧ (c.Laws.map Law.av : List AV)[(IntKind.i64.wrap (((pre.length : Nat) : Int) - 1) : Int).toNat]? = some (Law.av y), decide (x.Land < y.Land) = false, 0 ≤ (IntKind.i64.wrap (((pre.length : Nat) : Int) - 1) : Int) ∧ (c.Laws.map Law.av : List AV)[(IntKind.i64.wrap (((pre.length : Nat) : Int) - 1) : Int).toNat]? = some (Law.av y), (x.Land == y.Land) = true, 0 ≤ (IntKind.i64.wrap (((pre.length : Nat) : Int) - 1) : Int) ∧ (c.Laws.map Law.av : List AV)[(IntKind.i64.wrap (((pre.length : Nat) : Int) - 1) : Int).toNat]? = some (Law.av y), decide ((U8.i x.Kind) ≤ (U8.i y.Kind)) = false]) (by kernel_rfl) (by kernel_rfl) (⟨(pos_yes hp), (idx_prev hl hp hc1), hb18, (idx_prev hl hp hc1), hb19, (idx_prev hl hp hc1), hb20⟩) fun ac wd hS => ?_
                        refine cond_no hS (c := false) (by kernel_rfl) rfl ?_
                        refine runs_skip ?_
                        refine runs_inBlock ?_
                        refine reg [(1, .is (((pre ++ [x]).length : Nat) : Int))] [1, 3] hG hS (env := [(1, .box 0 0), (3, .int .i64 (((pre ++ [x]).length : Nat) : Int))]) (own := [.box none 25 [.sl (c.Laws.map Law.av), .sl (c.Stills.map Still.av)], .box none 66 [.int .i64 x.Land, .int .u8 (U8.i x.Kind), .int .u8 (U8.i x.Base), .int .i64 x.Keep]]) (obs := [IntKind.i64.wrap (((pre.length : Nat) : Int) + 1) = (((pre ++ [x]).length : Nat) : Int)]) (by kernel_rfl) ((next_len hl hc1)) fun ac wd hS => ?_
                        refine runs_inLoop ?_
                        exact ihx _ _ (pre ++ [x])  (next_eq hl) (chain_some hp hr (by simp only [lawRef, hb1, hb2, hb14, hb15, hb16, hb17, hb18, hb19, hb20, Bool.and_true, Bool.true_and, Bool.and_false, Bool.false_and, Bool.or_true, Bool.true_or, Bool.or_false, Bool.false_or, Bool.not_true, Bool.not_false]) (by simp only [lawBad, hb1, hb2, hb14, hb15, hb16, hb17, hb18, hb19, hb20, Bool.and_true, Bool.true_and, Bool.and_false, Bool.false_and, Bool.or_true, Bool.true_or, Bool.or_false, Bool.false_or, Bool.not_true, Bool.not_false])) (hS.sel [0] [1, 3] (by kernel_rfl))
                    · skip
                      refine drw [(2, .dec true), (9, .av (Law.av y)), (13, .dec false), (20, .av (Law.av y)), (24, .dec false)] [1, 3, 90] hG hS (env := [(1, .box 0 0), (3, .int .i64 ((pre.length : Nat) : Int)), (90, .bool false)]) (own := [.box none 25 [.sl (c.Laws.map Law.av), .sl (c.Stills.map Still.av)], .box none 66 [.int .i64 x.Land, .int .u8 (U8.i x.Kind), .int .u8 (U8.i x.Base), .int .i64 x.Keep]]) (obs := [decide (((pre.length : Nat) : Int) > 0) = true, 0 ≤ (IntKind.i64.wrap (((pre.length : Nat) : Int) - 1) : Int) ∧ (c.Laws.map Law.av : List AV)[(IntKind.i64.wrap (((pre.length : Nat) : Int) - 1) : Int).toNat]? = some (Law.av y), decide (x.Land < y.Land) = false, 0 ≤ (IntKind.i64.wrap (((pre.length : Nat) : Int) - 1) : Int) ∧ (c.Laws.map Law.av : List AV)[(IntKind.i64.wrap (((pre.length : Nat) : Int) - 1) : Int).toNat]? = some (Law.av y), (x.Land == y.Land) = false]) (by kernel_rfl) (by kernel_rfl) (⟨(pos_yes hp), (idx_prev hl hp hc1), hb18, (idx_prev hl hp hc1), hb19⟩) fun ac wd hS => ?_
                      refine cond_no hS (c := false) (by kernel_rfl) rfl ?_
                      refine runs_skip ?_
                      refine runs_inBlock ?_
                      refine reg [(1, .is (((pre ++ [x]).length : Nat) : Int))] [1, 3] hG hS (env := [(1, .box 0 0), (3, .int .i64 (((pre ++ [x]).length : Nat) : Int))]) (own := [.box none 25 [.sl (c.Laws.map Law.av), .sl (c.Stills.map Still.av)], .box none 66 [.int .i64 x.Land, .int .u8 (U8.i x.Kind), .int .u8 (U8.i x.Base), .int .i64 x.Keep]]) (obs := [IntKind.i64.wrap (((pre.length : Nat) : Int) + 1) = (((pre ++ [x]).length : Nat) : Int)]) (by kernel_rfl) ((next_len hl hc1)) fun ac wd hS => ?_
                      refine runs_inLoop ?_
                      exact ihx _ _ (pre ++ [x])  (next_eq hl) (chain_some hp hr (by simp only [lawRef, hb1, hb2, hb14, hb15, hb16, hb17, hb18, hb19, Bool.and_true, Bool.true_and, Bool.and_false, Bool.false_and, Bool.or_true, Bool.true_or, Bool.or_false, Bool.false_or, Bool.not_true, Bool.not_false]) (by simp only [lawBad, hb1, hb2, hb14, hb15, hb16, hb17, hb18, hb19, Bool.and_true, Bool.true_and, Bool.and_false, Bool.false_and, Bool.or_true, Bool.true_or, Bool.or_false, Bool.false_or, Bool.not_true, Bool.not_false])) (hS.sel [0] [1, 3] (by kernel_rfl))
                · skip
                  refine reg [(2, .av (.bool (within x.Land 0 99))), (4, .dec false), (7, .is (U8.i x.Kind)), (8, .av (.bool (within (U8.i x.Kind) 1 7))), (11, .dec false), (14, .is (U8.i x.Base)), (15, .av (.bool (within (U8.i x.Base) 1 3))), (18, .dec false), (21, .av (.bool (within x.Keep 0 100000))), (23, .dec true)] [1, 3, 4, 52] hG hS (env := [(1, .box 0 0), (3, .int .i64 ((pre.length : Nat) : Int)), (4, .box 1 0), (52, .bool true)]) (own := [.box none 25 [.sl (c.Laws.map Law.av), .sl (c.Stills.map Still.av)], .box none 66 [.int .i64 x.Land, .int .u8 (U8.i x.Kind), .int .u8 (U8.i x.Base), .int .i64 x.Keep]]) (obs := [CallA Tryz.prog GT 46 [.int .i64 x.Land, .int .i64 0, .int .i64 99] (.bool (within x.Land 0 99)), (!within x.Land 0 99) = false, IntKind.i64.wrap (U8.i x.Kind) = (U8.i x.Kind), CallA Tryz.prog GT 46 [.int .i64 (U8.i x.Kind), .int .i64 1, .int .i64 7] (.bool (within (U8.i x.Kind) 1 7)), (!within (U8.i x.Kind) 1 7) = false, IntKind.i64.wrap (U8.i x.Base) = (U8.i x.Base), CallA Tryz.prog GT 46 [.int .i64 (U8.i x.Base), .int .i64 1, .int .i64 3] (.bool (within (U8.i x.Base) 1 3)), (!within (U8.i x.Base) 1 3) = false, CallA Tryz.prog GT 46 [.int .i64 x.Keep, .int .i64 0, .int .i64 100000] (.bool (within x.Keep 0 100000)), (!within x.Keep 0 100000) = true]) (by kernel_rfl) (⟨(within_ok46 _ _ _), by rw [hb14]; rfl, (wrap_u8 _), (within_ok46 _ _ _), by rw [hb15]; rfl, (wrap_u8 _), (within_ok46 _ _ _), by rw [hb16]; rfl, (within_ok46 _ _ _), by rw [hb17]; rfl⟩) fun ac wd hS => ?_
                  refine cond_yes hS (c := true) (by kernel_rfl) rfl ?_
                  refine runs_seq ?_
                  refine reg [] [2] hG hS (env := [(2, .bool false)]) (own := [.box none 25 [.sl (c.Laws.map Law.av), .sl (c.Stills.map Still.av)], .box none 66 [.int .i64 x.Land, .int .u8 (U8.i x.Kind), .int .u8 (U8.i x.Base), .int .i64 x.Keep]]) (obs := []) (by kernel_rfl) (trivial) fun ac wd hS => ?_
                  have e0 : chainB lawRef lawBad none c.Laws = false := by first | (refine chain_no1 hr ?_; simp only [lawRef, hb1, hb2, hb14, hb15, hb16, hb17, Bool.and_true, Bool.true_and, Bool.and_false, Bool.false_and, Bool.or_true, Bool.true_or, Bool.or_false, Bool.false_or, Bool.not_true, Bool.not_false]; done) | (refine chain_no2 hp hr ?_; simp only [lawBad, hb1, hb2, hb14, hb15, hb16, hb17, Bool.and_true, Bool.true_and, Bool.and_false, Bool.false_and, Bool.or_true, Bool.true_or, Bool.or_false, Bool.false_or, Bool.not_true, Bool.not_false]; done)
                  rw [show (.bool (codeRefB c) : AV) = .bool false from by simp only [codeRefB, e0, Bool.and_true, Bool.true_and, Bool.and_false, Bool.false_and, Bool.or_true, Bool.true_or, Bool.or_false, Bool.false_or, Bool.not_true, Bool.not_false]]
                  exact retz Tryz.func68 rfl hB hBd hS (by kernel_rfl) rfl
              · skip
                refine reg [(2, .av (.bool (within x.Land 0 99))), (4, .dec false), (7, .is (U8.i x.Kind)), (8, .av (.bool (within (U8.i x.Kind) 1 7))), (11, .dec false), (14, .is (U8.i x.Base)), (15, .av (.bool (within (U8.i x.Base) 1 3))), (18, .dec true)] [1, 3, 4, 52] hG hS (env := [(1, .box 0 0), (3, .int .i64 ((pre.length : Nat) : Int)), (4, .box 1 0), (52, .bool true)]) (own := [.box none 25 [.sl (c.Laws.map Law.av), .sl (c.Stills.map Still.av)], .box none 66 [.int .i64 x.Land, .int .u8 (U8.i x.Kind), .int .u8 (U8.i x.Base), .int .i64 x.Keep]]) (obs := [CallA Tryz.prog GT 46 [.int .i64 x.Land, .int .i64 0, .int .i64 99] (.bool (within x.Land 0 99)), (!within x.Land 0 99) = false, IntKind.i64.wrap (U8.i x.Kind) = (U8.i x.Kind), CallA Tryz.prog GT 46 [.int .i64 (U8.i x.Kind), .int .i64 1, .int .i64 7] (.bool (within (U8.i x.Kind) 1 7)), (!within (U8.i x.Kind) 1 7) = false, IntKind.i64.wrap (U8.i x.Base) = (U8.i x.Base), CallA Tryz.prog GT 46 [.int .i64 (U8.i x.Base), .int .i64 1, .int .i64 3] (.bool (within (U8.i x.Base) 1 3)), (!within (U8.i x.Base) 1 3) = true]) (by kernel_rfl) (⟨(within_ok46 _ _ _), by rw [hb14]; rfl, (wrap_u8 _), (within_ok46 _ _ _), by rw [hb15]; rfl, (wrap_u8 _), (within_ok46 _ _ _), by rw [hb16]; rfl⟩) fun ac wd hS => ?_
                refine cond_yes hS (c := true) (by kernel_rfl) rfl ?_
                refine runs_seq ?_
                refine reg [] [2] hG hS (env := [(2, .bool false)]) (own := [.box none 25 [.sl (c.Laws.map Law.av), .sl (c.Stills.map Still.av)], .box none 66 [.int .i64 x.Land, .int .u8 (U8.i x.Kind), .int .u8 (U8.i x.Base), .int .i64 x.Keep]]) (obs := []) (by kernel_rfl) (trivial) fun ac wd hS => ?_
                have e0 : chainB lawRef lawBad none c.Laws = false := by first | (refine chain_no1 hr ?_; simp only [lawRef, hb1, hb2, hb14, hb15, hb16, Bool.and_true, Bool.true_and, Bool.and_false, Bool.false_and, Bool.or_true, Bool.true_or, Bool.or_false, Bool.false_or, Bool.not_true, Bool.not_false]; done) | (refine chain_no2 hp hr ?_; simp only [lawBad, hb1, hb2, hb14, hb15, hb16, Bool.and_true, Bool.true_and, Bool.and_false, Bool.false_and, Bool.or_true, Bool.true_or, Bool.or_false, Bool.false_or, Bool.not_true, Bool.not_false]; done)
                rw [show (.bool (codeRefB c) : AV) = .bool false from by simp only [codeRefB, e0, Bool.and_true, Bool.true_and, Bool.and_false, Bool.false_and, Bool.or_true, Bool.true_or, Bool.or_false, Bool.false_or, Bool.not_true, Bool.not_false]]
                exact retz Tryz.func68 rfl hB hBd hS (by kernel_rfl) rfl
            · skip
              refine reg [(2, .av (.bool (within x.Land 0 99))), (4, .dec false), (7, .is (U8.i x.Kind)), (8, .av (.bool (within (U8.i x.Kind) 1 7))), (11, .dec true)] [1, 3, 4, 52] hG hS (env := [(1, .box 0 0), (3, .int .i64 ((pre.length : Nat) : Int)), (4, .box 1 0), (52, .bool true)]) (own := [.box none 25 [.sl (c.Laws.map Law.av), .sl (c.Stills.map Still.av)], .box none 66 [.int .i64 x.Land, .int .u8 (U8.i x.Kind), .int .u8 (U8.i x.Base), .int .i64 x.Keep]]) (obs := [CallA Tryz.prog GT 46 [.int .i64 x.Land, .int .i64 0, .int .i64 99] (.bool (within x.Land 0 99)), (!within x.Land 0 99) = false, IntKind.i64.wrap (U8.i x.Kind) = (U8.i x.Kind), CallA Tryz.prog GT 46 [.int .i64 (U8.i x.Kind), .int .i64 1, .int .i64 7] (.bool (within (U8.i x.Kind) 1 7)), (!within (U8.i x.Kind) 1 7) = true]) (by kernel_rfl) (⟨(within_ok46 _ _ _), by rw [hb14]; rfl, (wrap_u8 _), (within_ok46 _ _ _), by rw [hb15]; rfl⟩) fun ac wd hS => ?_
              refine cond_yes hS (c := true) (by kernel_rfl) rfl ?_
              refine runs_seq ?_
              refine reg [] [2] hG hS (env := [(2, .bool false)]) (own := [.box none 25 [.sl (c.Laws.map Law.av), .sl (c.Stills.map Still.av)], .box none 66 [.int .i64 x.Land, .int .u8 (U8.i x.Kind), .int .u8 (U8.i x.Base), .int .i64 x.Keep]]) (obs := []) (by kernel_rfl) (trivial) fun ac wd hS => ?_
              have e0 : chainB lawRef lawBad none c.Laws = false := by first | (refine chain_no1 hr ?_; simp only [lawRef, hb1, hb2, hb14, hb15, Bool.and_true, Bool.true_and, Bool.and_false, Bool.false_and, Bool.or_true, Bool.true_or, Bool.or_false, Bool.false_or, Bool.not_true, Bool.not_false]; done) | (refine chain_no2 hp hr ?_; simp only [lawBad, hb1, hb2, hb14, hb15, Bool.and_true, Bool.true_and, Bool.and_false, Bool.false_and, Bool.or_true, Bool.true_or, Bool.or_false, Bool.false_or, Bool.not_true, Bool.not_false]; done)
              rw [show (.bool (codeRefB c) : AV) = .bool false from by simp only [codeRefB, e0, Bool.and_true, Bool.true_and, Bool.and_false, Bool.false_and, Bool.or_true, Bool.true_or, Bool.or_false, Bool.false_or, Bool.not_true, Bool.not_false]]
              exact retz Tryz.func68 rfl hB hBd hS (by kernel_rfl) rfl
          · skip
            refine reg [(2, .av (.bool (within x.Land 0 99))), (4, .dec true)] [1, 3, 4, 52] hG hS (env := [(1, .box 0 0), (3, .int .i64 ((pre.length : Nat) : Int)), (4, .box 1 0), (52, .bool true)]) (own := [.box none 25 [.sl (c.Laws.map Law.av), .sl (c.Stills.map Still.av)], .box none 66 [.int .i64 x.Land, .int .u8 (U8.i x.Kind), .int .u8 (U8.i x.Base), .int .i64 x.Keep]]) (obs := [CallA Tryz.prog GT 46 [.int .i64 x.Land, .int .i64 0, .int .i64 99] (.bool (within x.Land 0 99)), (!within x.Land 0 99) = true]) (by kernel_rfl) (⟨(within_ok46 _ _ _), by rw [hb14]; rfl⟩) fun ac wd hS => ?_
            refine cond_yes hS (c := true) (by kernel_rfl) rfl ?_
            refine runs_seq ?_
            refine reg [] [2] hG hS (env := [(2, .bool false)]) (own := [.box none 25 [.sl (c.Laws.map Law.av), .sl (c.Stills.map Still.av)], .box none 66 [.int .i64 x.Land, .int .u8 (U8.i x.Kind), .int .u8 (U8.i x.Base), .int .i64 x.Keep]]) (obs := []) (by kernel_rfl) (trivial) fun ac wd hS => ?_
            have e0 : chainB lawRef lawBad none c.Laws = false := by first | (refine chain_no1 hr ?_; simp only [lawRef, hb1, hb2, hb14, Bool.and_true, Bool.true_and, Bool.and_false, Bool.false_and, Bool.or_true, Bool.true_or, Bool.or_false, Bool.false_or, Bool.not_true, Bool.not_false]; done) | (refine chain_no2 hp hr ?_; simp only [lawBad, hb1, hb2, hb14, Bool.and_true, Bool.true_and, Bool.and_false, Bool.false_and, Bool.or_true, Bool.true_or, Bool.or_false, Bool.false_or, Bool.not_true, Bool.not_false]; done)
            rw [show (.bool (codeRefB c) : AV) = .bool false from by simp only [codeRefB, e0, Bool.and_true, Bool.true_and, Bool.and_false, Bool.false_and, Bool.or_true, Bool.true_or, Bool.or_false, Bool.false_or, Bool.not_true, Bool.not_false]]
            exact retz Tryz.func68 rfl hB hBd hS (by kernel_rfl) rfl
theorem homesRef_ok (l : List Home) (hn : l.length ≤ 65536) : CallA Tryz.prog GT 69 [.sl (l.map Home.av)] (.bool (homesRefB l)) := by
  refine callA_of Tryz.func69 rfl (by simp [Tryz.f69]) rfl fun B ac hB hBd hG hS => ?_
  refine runs_seq ?_
  refine reg [] [0] hG hS (env := [(0, .sl (l.map Home.av))]) (own := []) (obs := []) (by kernel_rfl) (trivial) fun ac wd hS => ?_
  refine runs_seq ?_
  refine runs_seq ?_
  rcases Bool.eq_false_or_eq_true (decide (((l.length : Nat) : Int) > 60)) with hb1 | hb1
  · skip
    refine reg [(1, .is ((l.length : Nat) : Int)), (2, .dec true)] [0, 6] hG hS (env := [(0, .sl (l.map Home.av)), (6, .bool true)]) (own := []) (obs := [((l.map Home.av).length : Int) = ((l.length : Nat) : Int), decide (((l.length : Nat) : Int) > 60) = true]) (by kernel_rfl) (⟨len_map, hb1⟩) fun ac wd hS => ?_
    refine cond_yes hS (c := true) (by kernel_rfl) rfl ?_
    refine runs_seq ?_
    refine reg [] [2] hG hS (env := [(2, .bool false)]) (own := []) (obs := []) (by kernel_rfl) (trivial) fun ac wd hS => ?_
    rw [show (.bool (homesRefB l) : AV) = .bool false from by simp only [homesRefB, hb1, Bool.and_true, Bool.true_and, Bool.and_false, Bool.false_and, Bool.or_true, Bool.true_or, Bool.or_false, Bool.false_or, Bool.not_true, Bool.not_false]]
    exact retz Tryz.func69 rfl hB hBd hS (by kernel_rfl) rfl
  · skip
    refine reg [(1, .is ((l.length : Nat) : Int)), (2, .dec false)] [0, 6] hG hS (env := [(0, .sl (l.map Home.av)), (6, .bool false)]) (own := []) (obs := [((l.map Home.av).length : Int) = ((l.length : Nat) : Int), decide (((l.length : Nat) : Int) > 60) = false]) (by kernel_rfl) (⟨len_map, hb1⟩) fun ac wd hS => ?_
    refine cond_no hS (c := false) (by kernel_rfl) rfl ?_
    refine runs_skip ?_
    refine runs_seq ?_
    refine runs_seq ?_
    refine reg [] [0, 3] hG hS (env := [(0, .sl (l.map Home.av)), (3, .int .i64 0)]) (own := []) (obs := []) (by kernel_rfl) (trivial) fun ac wd hS => ?_
    refine runs_block ?_
    refine runs_loop ?_
    have hinv : ∃ (pre rest : List Home), l = pre ++ rest ∧ (chainB homeRef homeBad none l = chainB homeRef homeBad pre.getLast? rest) ∧ Sat B ⟨Tryz.f69.ntmps, [(0, .sl (l.map Home.av)), (3, .int .i64 ((pre.length : Nat) : Int))], []⟩ ac wd := ⟨[], l, rfl, rfl, hS.sel [] [0, 3] (by kernel_rfl)⟩
    clear hS
    obtain ⟨pre, rest, hl, hr, hS⟩ := hinv
    induction rest generalizing pre  ac wd with
    | nil =>
      refine runs_seq ?_
      refine runs_seq ?_
      refine reg [(2, .is ((l.length : Nat) : Int)), (3, .dec false)] [0, 3, 10] hG hS (env := [(0, .sl (l.map Home.av)), (3, .int .i64 ((pre.length : Nat) : Int)), (10, .bool false)]) (own := []) (obs := [((l.map Home.av).length : Int) = ((l.length : Nat) : Int), decide (((pre.length : Nat) : Int) < ((l.length : Nat) : Int)) = false]) (by kernel_rfl) (⟨len_map, (lt_no hl)⟩) fun ac wd hS => ?_
      refine cond_no hS (c := false) (by kernel_rfl) rfl ?_
      refine runs_exit (by rfl) ?_
      refine runs_seq ?_
      refine reg [] [2] hG hS (env := [(2, .bool true)]) (own := []) (obs := []) (by kernel_rfl) (trivial) fun ac wd hS => ?_
      rw [show (.bool (homesRefB l) : AV) = .bool true from by simp only [homesRefB, chain_end hr, hb1, Bool.and_true, Bool.true_and, Bool.and_false, Bool.false_and, Bool.or_true, Bool.true_or, Bool.or_false, Bool.false_or, Bool.not_true, Bool.not_false]]
      exact retz Tryz.func69 rfl hB hBd hS (by kernel_rfl) rfl
    | cons x rest ihx =>
      rcases snoc_cases pre with hp | ⟨pr, y, hp⟩
      · skip
        refine runs_seq ?_
        refine runs_seq ?_
        refine reg [(2, .is ((l.length : Nat) : Int)), (3, .dec true)] [0, 3, 10] hG hS (env := [(0, .sl (l.map Home.av)), (3, .int .i64 ((pre.length : Nat) : Int)), (10, .bool true)]) (own := []) (obs := [((l.map Home.av).length : Int) = ((l.length : Nat) : Int), decide (((pre.length : Nat) : Int) < ((l.length : Nat) : Int)) = true]) (by kernel_rfl) (⟨len_map, (lt_yes hl)⟩) fun ac wd hS => ?_
        refine cond_yes hS (c := true) (by kernel_rfl) rfl ?_
        refine runs_skip ?_
        refine runs_seq ?_
        refine runs_block ?_
        refine runs_seq ?_
        rcases Bool.eq_false_or_eq_true (within x.Account 0 999999) with hb2 | hb2
        · skip
          rcases Bool.eq_false_or_eq_true (within x.Land 0 99) with hb3 | hb3
          · skip
            refine drw [(2, .av (Home.av x)), (5, .av (.bool (within x.Account 0 999999))), (7, .dec false), (10, .av (Home.av x)), (13, .av (.bool (within x.Land 0 99))), (16, .dec false), (19, .dec false)] [0, 3, 46] hG hS (env := [(0, .sl (l.map Home.av)), (3, .int .i64 ((pre.length : Nat) : Int)), (46, .bool false)]) (own := []) (obs := [0 ≤ (((pre.length : Nat) : Int) : Int) ∧ (l.map Home.av : List AV)[(((pre.length : Nat) : Int) : Int).toNat]? = some (Home.av x), CallA Tryz.prog GT 46 [.int .i64 x.Account, .int .i64 0, .int .i64 999999] (.bool (within x.Account 0 999999)), (!within x.Account 0 999999) = false, 0 ≤ (((pre.length : Nat) : Int) : Int) ∧ (l.map Home.av : List AV)[(((pre.length : Nat) : Int) : Int).toNat]? = some (Home.av x), CallA Tryz.prog GT 46 [.int .i64 x.Land, .int .i64 0, .int .i64 99] (.bool (within x.Land 0 99)), (!within x.Land 0 99) = false, decide (((pre.length : Nat) : Int) > 0) = false]) (by kernel_rfl) (by kernel_rfl) (⟨(idx_ok hl), (within_ok46 _ _ _), by rw [hb2]; rfl, (idx_ok hl), (within_ok46 _ _ _), by rw [hb3]; rfl, (pos_no hp)⟩) fun ac wd hS => ?_
            refine cond_no hS (c := false) (by kernel_rfl) rfl ?_
            refine runs_skip ?_
            refine runs_inBlock ?_
            refine reg [(1, .is (((pre ++ [x]).length : Nat) : Int))] [0, 3] hG hS (env := [(0, .sl (l.map Home.av)), (3, .int .i64 (((pre ++ [x]).length : Nat) : Int))]) (own := []) (obs := [IntKind.i64.wrap (((pre.length : Nat) : Int) + 1) = (((pre ++ [x]).length : Nat) : Int)]) (by kernel_rfl) ((next_len hl hn)) fun ac wd hS => ?_
            refine runs_inLoop ?_
            exact ihx _ _ (pre ++ [x])  (next_eq hl) (chain_nil hp hr (by simp only [homeRef, hb1, hb2, hb3, Bool.and_true, Bool.true_and, Bool.and_false, Bool.false_and, Bool.or_true, Bool.true_or, Bool.or_false, Bool.false_or, Bool.not_true, Bool.not_false])) (hS.sel [] [0, 3] (by kernel_rfl))
          · skip
            refine drw [(2, .av (Home.av x)), (5, .av (.bool (within x.Account 0 999999))), (7, .dec false), (10, .av (Home.av x)), (13, .av (.bool (within x.Land 0 99))), (16, .dec true)] [0, 3, 46] hG hS (env := [(0, .sl (l.map Home.av)), (3, .int .i64 ((pre.length : Nat) : Int)), (46, .bool true)]) (own := []) (obs := [0 ≤ (((pre.length : Nat) : Int) : Int) ∧ (l.map Home.av : List AV)[(((pre.length : Nat) : Int) : Int).toNat]? = some (Home.av x), CallA Tryz.prog GT 46 [.int .i64 x.Account, .int .i64 0, .int .i64 999999] (.bool (within x.Account 0 999999)), (!within x.Account 0 999999) = false, 0 ≤ (((pre.length : Nat) : Int) : Int) ∧ (l.map Home.av : List AV)[(((pre.length : Nat) : Int) : Int).toNat]? = some (Home.av x), CallA Tryz.prog GT 46 [.int .i64 x.Land, .int .i64 0, .int .i64 99] (.bool (within x.Land 0 99)), (!within x.Land 0 99) = true]) (by kernel_rfl) (by kernel_rfl) (⟨(idx_ok hl), (within_ok46 _ _ _), by rw [hb2]; rfl, (idx_ok hl), (within_ok46 _ _ _), by rw [hb3]; rfl⟩) fun ac wd hS => ?_
            refine cond_yes hS (c := true) (by kernel_rfl) rfl ?_
            refine runs_seq ?_
            refine reg [] [2] hG hS (env := [(2, .bool false)]) (own := []) (obs := []) (by kernel_rfl) (trivial) fun ac wd hS => ?_
            have e0 : chainB homeRef homeBad none l = false := by first | (refine chain_no1 hr ?_; simp only [homeRef, hb1, hb2, hb3, Bool.and_true, Bool.true_and, Bool.and_false, Bool.false_and, Bool.or_true, Bool.true_or, Bool.or_false, Bool.false_or, Bool.not_true, Bool.not_false]; done) | (refine chain_no2 hp hr ?_; simp only [homeBad, hb1, hb2, hb3, Bool.and_true, Bool.true_and, Bool.and_false, Bool.false_and, Bool.or_true, Bool.true_or, Bool.or_false, Bool.false_or, Bool.not_true, Bool.not_false]; done)
            rw [show (.bool (homesRefB l) : AV) = .bool false from by simp only [homesRefB, e0, Bool.and_true, Bool.true_and, Bool.and_false, Bool.false_and, Bool.or_true, Bool.true_or, Bool.or_false, Bool.false_or, Bool.not_true, Bool.not_false]]
            exact retz Tryz.func69 rfl hB hBd hS (by kernel_rfl) rfl
        · skip
          refine drw [(2, .av (Home.av x)), (5, .av (.bool (within x.Account 0 999999))), (7, .dec true)] [0, 3, 46] hG hS (env := [(0, .sl (l.map Home.av)), (3, .int .i64 ((pre.length : Nat) : Int)), (46, .bool true)]) (own := []) (obs := [0 ≤ (((pre.length : Nat) : Int) : Int) ∧ (l.map Home.av : List AV)[(((pre.length : Nat) : Int) : Int).toNat]? = some (Home.av x), CallA Tryz.prog GT 46 [.int .i64 x.Account, .int .i64 0, .int .i64 999999] (.bool (within x.Account 0 999999)), (!within x.Account 0 999999) = true]) (by kernel_rfl) (by kernel_rfl) (⟨(idx_ok hl), (within_ok46 _ _ _), by rw [hb2]; rfl⟩) fun ac wd hS => ?_
          refine cond_yes hS (c := true) (by kernel_rfl) rfl ?_
          refine runs_seq ?_
          refine reg [] [2] hG hS (env := [(2, .bool false)]) (own := []) (obs := []) (by kernel_rfl) (trivial) fun ac wd hS => ?_
          have e0 : chainB homeRef homeBad none l = false := by first | (refine chain_no1 hr ?_; simp only [homeRef, hb1, hb2, Bool.and_true, Bool.true_and, Bool.and_false, Bool.false_and, Bool.or_true, Bool.true_or, Bool.or_false, Bool.false_or, Bool.not_true, Bool.not_false]; done) | (refine chain_no2 hp hr ?_; simp only [homeBad, hb1, hb2, Bool.and_true, Bool.true_and, Bool.and_false, Bool.false_and, Bool.or_true, Bool.true_or, Bool.or_false, Bool.false_or, Bool.not_true, Bool.not_false]; done)
          rw [show (.bool (homesRefB l) : AV) = .bool false from by simp only [homesRefB, e0, Bool.and_true, Bool.true_and, Bool.and_false, Bool.false_and, Bool.or_true, Bool.true_or, Bool.or_false, Bool.false_or, Bool.not_true, Bool.not_false]]
          exact retz Tryz.func69 rfl hB hBd hS (by kernel_rfl) rfl
      · skip
        refine runs_seq ?_
        refine runs_seq ?_
        refine reg [(2, .is ((l.length : Nat) : Int)), (3, .dec true)] [0, 3, 10] hG hS (env := [(0, .sl (l.map Home.av)), (3, .int .i64 ((pre.length : Nat) : Int)), (10, .bool true)]) (own := []) (obs := [((l.map Home.av).length : Int) = ((l.length : Nat) : Int), decide (((pre.length : Nat) : Int) < ((l.length : Nat) : Int)) = true]) (by kernel_rfl) (⟨len_map, (lt_yes hl)⟩) fun ac wd hS => ?_
        refine cond_yes hS (c := true) (by kernel_rfl) rfl ?_
        refine runs_skip ?_
        refine runs_seq ?_
        refine runs_block ?_
        refine runs_seq ?_
        rcases Bool.eq_false_or_eq_true (within x.Account 0 999999) with hb4 | hb4
        · skip
          rcases Bool.eq_false_or_eq_true (within x.Land 0 99) with hb5 | hb5
          · skip
            rcases Bool.eq_false_or_eq_true (decide (x.Account ≤ y.Account)) with hb6 | hb6
            · skip
              refine drw [(2, .av (Home.av x)), (5, .av (.bool (within x.Account 0 999999))), (7, .dec false), (10, .av (Home.av x)), (13, .av (.bool (within x.Land 0 99))), (16, .dec false), (19, .dec true), (22, .av (Home.av x)), (28, .av (Home.av y)), (33, .dec true)] [0, 3, 46] hG hS (env := [(0, .sl (l.map Home.av)), (3, .int .i64 ((pre.length : Nat) : Int)), (46, .bool true)]) (own := []) (obs := [0 ≤ (((pre.length : Nat) : Int) : Int) ∧ (l.map Home.av : List AV)[(((pre.length : Nat) : Int) : Int).toNat]? = some (Home.av x), CallA Tryz.prog GT 46 [.int .i64 x.Account, .int .i64 0, .int .i64 999999] (.bool (within x.Account 0 999999)), (!within x.Account 0 999999) = false, 0 ≤ (((pre.length : Nat) : Int) : Int) ∧ (l.map Home.av : List AV)[(((pre.length : Nat) : Int) : Int).toNat]? = some (Home.av x), CallA Tryz.prog GT 46 [.int .i64 x.Land, .int .i64 0, .int .i64 99] (.bool (within x.Land 0 99)), (!within x.Land 0 99) = false, decide (((pre.length : Nat) : Int) > 0) = true, 0 ≤ (((pre.length : Nat) : Int) : Int) ∧ (l.map Home.av : List AV)[(((pre.length : Nat) : Int) : Int).toNat]? = some (Home.av x), 0 ≤ (IntKind.i64.wrap (((pre.length : Nat) : Int) - 1) : Int) ∧ (l.map Home.av : List AV)[(IntKind.i64.wrap (((pre.length : Nat) : Int) - 1) : Int).toNat]? = some (Home.av y), decide (x.Account ≤ y.Account) = true]) (by kernel_rfl) (by kernel_rfl) (⟨(idx_ok hl), (within_ok46 _ _ _), by rw [hb4]; rfl, (idx_ok hl), (within_ok46 _ _ _), by rw [hb5]; rfl, (pos_yes hp), (idx_ok hl), (idx_prev hl hp hn), hb6⟩) fun ac wd hS => ?_
              refine cond_yes hS (c := true) (by kernel_rfl) rfl ?_
              refine runs_seq ?_
              refine reg [] [2] hG hS (env := [(2, .bool false)]) (own := []) (obs := []) (by kernel_rfl) (trivial) fun ac wd hS => ?_
              have e0 : chainB homeRef homeBad none l = false := by first | (refine chain_no1 hr ?_; simp only [homeRef, hb1, hb4, hb5, hb6, Bool.and_true, Bool.true_and, Bool.and_false, Bool.false_and, Bool.or_true, Bool.true_or, Bool.or_false, Bool.false_or, Bool.not_true, Bool.not_false]; done) | (refine chain_no2 hp hr ?_; simp only [homeBad, hb1, hb4, hb5, hb6, Bool.and_true, Bool.true_and, Bool.and_false, Bool.false_and, Bool.or_true, Bool.true_or, Bool.or_false, Bool.false_or, Bool.not_true, Bool.not_false]; done)
              rw [show (.bool (homesRefB l) : AV) = .bool false from by simp only [homesRefB, e0, Bool.and_true, Bool.true_and, Bool.and_false, Bool.false_and, Bool.or_true, Bool.true_or, Bool.or_false, Bool.false_or, Bool.not_true, Bool.not_false]]
              exact retz Tryz.func69 rfl hB hBd hS (by kernel_rfl) rfl
            · skip
              refine drw [(2, .av (Home.av x)), (5, .av (.bool (within x.Account 0 999999))), (7, .dec false), (10, .av (Home.av x)), (13, .av (.bool (within x.Land 0 99))), (16, .dec false), (19, .dec true), (22, .av (Home.av x)), (28, .av (Home.av y)), (33, .dec false)] [0, 3, 46] hG hS (env := [(0, .sl (l.map Home.av)), (3, .int .i64 ((pre.length : Nat) : Int)), (46, .bool false)]) (own := []) (obs := [0 ≤ (((pre.length : Nat) : Int) : Int) ∧ (l.map Home.av : List AV)[(((pre.length : Nat) : Int) : Int).toNat]? = some (Home.av x), CallA Tryz.prog GT 46 [.int .i64 x.Account, .int .i64 0, .int .i64 999999] (.bool (within x.Account 0 999999)), (!within x.Account 0 999999) = false, 0 ≤ (((pre.length : Nat) : Int) : Int) ∧ (l.map Home.av : List AV)[(((pre.length : Nat) : Int) : Int).toNat]? = some (Home.av x), CallA Tryz.prog GT 46 [.int .i64 x.Land, .int .i64 0, .int .i64 99] (.bool (within x.Land 0 99)), (!within x.Land 0 99) = false, decide (((pre.length : Nat) : Int) > 0) = true, 0 ≤ (((pre.length : Nat) : Int) : Int) ∧ (l.map Home.av : List AV)[(((pre.length : Nat) : Int) : Int).toNat]? = some (Home.av x), 0 ≤ (IntKind.i64.wrap (((pre.length : Nat) : Int) - 1) : Int) ∧ (l.map Home.av : List AV)[(IntKind.i64.wrap (((pre.length : Nat) : Int) - 1) : Int).toNat]? = some (Home.av y), decide (x.Account ≤ y.Account) = false]) (by kernel_rfl) (by kernel_rfl) (⟨(idx_ok hl), (within_ok46 _ _ _), by rw [hb4]; rfl, (idx_ok hl), (within_ok46 _ _ _), by rw [hb5]; rfl, (pos_yes hp), (idx_ok hl), (idx_prev hl hp hn), hb6⟩) fun ac wd hS => ?_
              refine cond_no hS (c := false) (by kernel_rfl) rfl ?_
              refine runs_skip ?_
              refine runs_inBlock ?_
              refine reg [(1, .is (((pre ++ [x]).length : Nat) : Int))] [0, 3] hG hS (env := [(0, .sl (l.map Home.av)), (3, .int .i64 (((pre ++ [x]).length : Nat) : Int))]) (own := []) (obs := [IntKind.i64.wrap (((pre.length : Nat) : Int) + 1) = (((pre ++ [x]).length : Nat) : Int)]) (by kernel_rfl) ((next_len hl hn)) fun ac wd hS => ?_
              refine runs_inLoop ?_
              exact ihx _ _ (pre ++ [x])  (next_eq hl) (chain_some hp hr (by simp only [homeRef, hb1, hb4, hb5, hb6, Bool.and_true, Bool.true_and, Bool.and_false, Bool.false_and, Bool.or_true, Bool.true_or, Bool.or_false, Bool.false_or, Bool.not_true, Bool.not_false]) (by simp only [homeBad, hb1, hb4, hb5, hb6, Bool.and_true, Bool.true_and, Bool.and_false, Bool.false_and, Bool.or_true, Bool.true_or, Bool.or_false, Bool.false_or, Bool.not_true, Bool.not_false])) (hS.sel [] [0, 3] (by kernel_rfl))
          · skip
            refine drw [(2, .av (Home.av x)), (5, .av (.bool (within x.Account 0 999999))), (7, .dec false), (10, .av (Home.av x)), (13, .av (.bool (within x.Land 0 99))), (16, .dec true)] [0, 3, 46] hG hS (env := [(0, .sl (l.map Home.av)), (3, .int .i64 ((pre.length : Nat) : Int)), (46, .bool true)]) (own := []) (obs := [0 ≤ (((pre.length : Nat) : Int) : Int) ∧ (l.map Home.av : List AV)[(((pre.length : Nat) : Int) : Int).toNat]? = some (Home.av x), CallA Tryz.prog GT 46 [.int .i64 x.Account, .int .i64 0, .int .i64 999999] (.bool (within x.Account 0 999999)), (!within x.Account 0 999999) = false, 0 ≤ (((pre.length : Nat) : Int) : Int) ∧ (l.map Home.av : List AV)[(((pre.length : Nat) : Int) : Int).toNat]? = some (Home.av x), CallA Tryz.prog GT 46 [.int .i64 x.Land, .int .i64 0, .int .i64 99] (.bool (within x.Land 0 99)), (!within x.Land 0 99) = true]) (by kernel_rfl) (by kernel_rfl) (⟨(idx_ok hl), (within_ok46 _ _ _), by rw [hb4]; rfl, (idx_ok hl), (within_ok46 _ _ _), by rw [hb5]; rfl⟩) fun ac wd hS => ?_
            refine cond_yes hS (c := true) (by kernel_rfl) rfl ?_
            refine runs_seq ?_
            refine reg [] [2] hG hS (env := [(2, .bool false)]) (own := []) (obs := []) (by kernel_rfl) (trivial) fun ac wd hS => ?_
            have e0 : chainB homeRef homeBad none l = false := by first | (refine chain_no1 hr ?_; simp only [homeRef, hb1, hb4, hb5, Bool.and_true, Bool.true_and, Bool.and_false, Bool.false_and, Bool.or_true, Bool.true_or, Bool.or_false, Bool.false_or, Bool.not_true, Bool.not_false]; done) | (refine chain_no2 hp hr ?_; simp only [homeBad, hb1, hb4, hb5, Bool.and_true, Bool.true_and, Bool.and_false, Bool.false_and, Bool.or_true, Bool.true_or, Bool.or_false, Bool.false_or, Bool.not_true, Bool.not_false]; done)
            rw [show (.bool (homesRefB l) : AV) = .bool false from by simp only [homesRefB, e0, Bool.and_true, Bool.true_and, Bool.and_false, Bool.false_and, Bool.or_true, Bool.true_or, Bool.or_false, Bool.false_or, Bool.not_true, Bool.not_false]]
            exact retz Tryz.func69 rfl hB hBd hS (by kernel_rfl) rfl
        · skip
          refine drw [(2, .av (Home.av x)), (5, .av (.bool (within x.Account 0 999999))), (7, .dec true)] [0, 3, 46] hG hS (env := [(0, .sl (l.map Home.av)), (3, .int .i64 ((pre.length : Nat) : Int)), (46, .bool true)]) (own := []) (obs := [0 ≤ (((pre.length : Nat) : Int) : Int) ∧ (l.map Home.av : List AV)[(((pre.length : Nat) : Int) : Int).toNat]? = some (Home.av x), CallA Tryz.prog GT 46 [.int .i64 x.Account, .int .i64 0, .int .i64 999999] (.bool (within x.Account 0 999999)), (!within x.Account 0 999999) = true]) (by kernel_rfl) (by kernel_rfl) (⟨(idx_ok hl), (within_ok46 _ _ _), by rw [hb4]; rfl⟩) fun ac wd hS => ?_
          refine cond_yes hS (c := true) (by kernel_rfl) rfl ?_
          refine runs_seq ?_
          refine reg [] [2] hG hS (env := [(2, .bool false)]) (own := []) (obs := []) (by kernel_rfl) (trivial) fun ac wd hS => ?_
          have e0 : chainB homeRef homeBad none l = false := by first | (refine chain_no1 hr ?_; simp only [homeRef, hb1, hb4, Bool.and_true, Bool.true_and, Bool.and_false, Bool.false_and, Bool.or_true, Bool.true_or, Bool.or_false, Bool.false_or, Bool.not_true, Bool.not_false]; done) | (refine chain_no2 hp hr ?_; simp only [homeBad, hb1, hb4, Bool.and_true, Bool.true_and, Bool.and_false, Bool.false_and, Bool.or_true, Bool.true_or, Bool.or_false, Bool.false_or, Bool.not_true, Bool.not_false]; done)
          rw [show (.bool (homesRefB l) : AV) = .bool false from by simp only [homesRefB, e0, Bool.and_true, Bool.true_and, Bool.and_false, Bool.false_and, Bool.or_true, Bool.true_or, Bool.or_false, Bool.false_or, Bool.not_true, Bool.not_false]]
          exact retz Tryz.func69 rfl hB hBd hS (by kernel_rfl) rfl
theorem checkRef_ok (c : Code) (homes : List Home) (hc1 : c.Laws.length ≤ 65536) (hc2 : c.Stills.length ≤ 65536) (hh : homes.length ≤ 65536) : CallA Tryz.prog GT 20 [Code.av c, .sl (homes.map Home.av)] (.int .i64 (checkRefI c homes)) := by
  refine callA_of Tryz.func20 rfl (by simp [Tryz.f20]) rfl fun B ac hB hBd hG hS => ?_
  refine runs_seq ?_
  refine reg [] [1, 2] hG hS (env := [(1, .sl (homes.map Home.av)), (2, .box 0 0)]) (own := [.box none 25 [.sl (c.Laws.map Law.av), .sl (c.Stills.map Still.av)]]) (obs := []) (by kernel_rfl) (trivial) fun ac wd hS => ?_
  refine runs_seq ?_
  refine runs_seq ?_
  rcases Bool.eq_false_or_eq_true (codeRefB c) with hb1 | hb1
  · skip
    refine reg [(1, .av (.bool (codeRefB c))), (2, .dec false)] [1, 7] hG hS (env := [(1, .sl (homes.map Home.av)), (7, .bool false)]) (own := [.box none 25 [.sl (c.Laws.map Law.av), .sl (c.Stills.map Still.av)]]) (obs := [CallA Tryz.prog GT 68 [Code.av c] (.bool (codeRefB c)), (!codeRefB c) = false]) (by kernel_rfl) (⟨(codeRef_ok _ hc1 hc2), by rw [hb1]; rfl⟩) fun ac wd hS => ?_
    refine cond_no hS (c := false) (by kernel_rfl) rfl ?_
    refine runs_skip ?_
    refine runs_seq ?_
    refine runs_seq ?_
    rcases Bool.eq_false_or_eq_true (homesRefB homes) with hb2 | hb2
    · skip
      refine reg [(1, .av (.bool (homesRefB homes))), (2, .dec false)] [10] hG hS (env := [(10, .bool false)]) (own := [.box none 25 [.sl (c.Laws.map Law.av), .sl (c.Stills.map Still.av)]]) (obs := [CallA Tryz.prog GT 69 [.sl (homes.map Home.av)] (.bool (homesRefB homes)), (!homesRefB homes) = false]) (by kernel_rfl) (⟨(homesRef_ok _ hh), by rw [hb2]; rfl⟩) fun ac wd hS => ?_
      refine cond_no hS (c := false) (by kernel_rfl) rfl ?_
      refine runs_skip ?_
      refine runs_seq ?_
      refine reg [] [4] hG hS (env := [(4, .int .i64 0)]) (own := [.box none 25 [.sl (c.Laws.map Law.av), .sl (c.Stills.map Still.av)]]) (obs := []) (by kernel_rfl) (trivial) fun ac wd hS => ?_
      rw [show (.int .i64 (checkRefI c homes) : AV) = .int .i64 0 from by ((try simp only [decide_eq_true_eq, decide_eq_false_iff_not, beq_iff_eq, beq_eq_false_iff_ne] at hb1); (try simp only [decide_eq_true_eq, decide_eq_false_iff_not, beq_iff_eq, beq_eq_false_iff_ne] at hb2); first | (simp [checkRefI, hb1, hb2]; done) | (simp [checkRefI, hb1, hb2]; omega) | (congr 1; simp only [checkRefI]; grind))]
      exact retz Tryz.func20 rfl hB hBd hS (by kernel_rfl) rfl
    · skip
      refine reg [(1, .av (.bool (homesRefB homes))), (2, .dec true)] [10] hG hS (env := [(10, .bool true)]) (own := [.box none 25 [.sl (c.Laws.map Law.av), .sl (c.Stills.map Still.av)]]) (obs := [CallA Tryz.prog GT 69 [.sl (homes.map Home.av)] (.bool (homesRefB homes)), (!homesRefB homes) = true]) (by kernel_rfl) (⟨(homesRef_ok _ hh), by rw [hb2]; rfl⟩) fun ac wd hS => ?_
      refine cond_yes hS (c := true) (by kernel_rfl) rfl ?_
      refine runs_seq ?_
      refine reg [] [4] hG hS (env := [(4, .int .i64 41)]) (own := [.box none 25 [.sl (c.Laws.map Law.av), .sl (c.Stills.map Still.av)]]) (obs := []) (by kernel_rfl) (trivial) fun ac wd hS => ?_
      rw [show (.int .i64 (checkRefI c homes) : AV) = .int .i64 41 from by ((try simp only [decide_eq_true_eq, decide_eq_false_iff_not, beq_iff_eq, beq_eq_false_iff_ne] at hb1); (try simp only [decide_eq_true_eq, decide_eq_false_iff_not, beq_iff_eq, beq_eq_false_iff_ne] at hb2); first | (simp [checkRefI, hb1, hb2]; done) | (simp [checkRefI, hb1, hb2]; omega) | (congr 1; simp only [checkRefI]; grind))]
      exact retz Tryz.func20 rfl hB hBd hS (by kernel_rfl) rfl
  · skip
    refine reg [(1, .av (.bool (codeRefB c))), (2, .dec true)] [1, 7] hG hS (env := [(1, .sl (homes.map Home.av)), (7, .bool true)]) (own := [.box none 25 [.sl (c.Laws.map Law.av), .sl (c.Stills.map Still.av)]]) (obs := [CallA Tryz.prog GT 68 [Code.av c] (.bool (codeRefB c)), (!codeRefB c) = true]) (by kernel_rfl) (⟨(codeRef_ok _ hc1 hc2), by rw [hb1]; rfl⟩) fun ac wd hS => ?_
    refine cond_yes hS (c := true) (by kernel_rfl) rfl ?_
    refine runs_seq ?_
    refine reg [] [4] hG hS (env := [(4, .int .i64 40)]) (own := [.box none 25 [.sl (c.Laws.map Law.av), .sl (c.Stills.map Still.av)]]) (obs := []) (by kernel_rfl) (trivial) fun ac wd hS => ?_
    rw [show (.int .i64 (checkRefI c homes) : AV) = .int .i64 40 from by ((try simp only [decide_eq_true_eq, decide_eq_false_iff_not, beq_iff_eq, beq_eq_false_iff_ne] at hb1); first | (simp [checkRefI, hb1]; done) | (simp [checkRefI, hb1]; omega) | (congr 1; simp only [checkRefI]; grind))]
    exact retz Tryz.func20 rfl hB hBd hS (by kernel_rfl) rfl
end Go.Fw

