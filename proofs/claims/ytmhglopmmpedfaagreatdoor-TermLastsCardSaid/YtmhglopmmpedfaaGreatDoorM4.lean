/- A part of the following proof. The law TermLasts returns true at every input and leaves the input as it was. -/
import Derived.Test.YtmhglopmmpedfaaGreatDoorM3
set_option linter.unusedSimpArgs false
set_option linter.unusedVariables false
set_option linter.unnecessarySimpa false
set_option linter.all false
set_option maxRecDepth 20000
namespace Go.Fw
open Go.Proofs

def centsB (k n : Int) : Bool := if (k == 1) || (k == 7) then n == 0 else if k == 5 then within n 0 10000 else within n 0 1000000000000
def validB (r : Report) : Bool := within r.Id 0 999999 && (within r.Source 0 999999 && (within r.Account 0 999999 && (within r.Made 0 100000 && (within r.About 0 100000 && (within (U8.i r.Kind) 1 9 &&
  (if U8.i r.Kind ≤ 7 then centsB (U8.i r.Kind) r.Cents && (r.Of == 0) else
    within r.Of 0 999999 && (!(r.Of == r.Id) && (if U8.i r.Kind = 8 then within r.Cents 0 1000000000000 else (r.Cents == 0) && (r.About == 0)))))))))
def atI (l : List Report) (id : Int) : Int := findI (fun x : Report => x.Id == id) l 0
theorem cents_ok (k n : Int) : CallA Tryz.prog GT 137 [.int .u8 k, .int .i64 n] (.bool (centsB k n)) := by
  refine callA_of Tryz.func137 rfl (by simp [Tryz.f137]) rfl fun B ac hB hBd hG hS => ?_
  refine runs_seq ?_
  refine reg [] [0, 1] hG hS (env := [(0, .int .u8 k), (1, .int .i64 n)]) (own := []) (obs := []) (by kernel_rfl) (trivial) fun ac wd hS => ?_
  refine runs_seq ?_
  refine runs_seq ?_
  refine reg [] [1, 5] hG hS (env := [(1, .int .i64 n), (5, .int .u8 k)]) (own := []) (obs := []) (by kernel_rfl) (trivial) fun ac wd hS => ?_
  refine runs_block ?_
  refine runs_seq ?_
  refine runs_seq ?_
  rcases Bool.eq_false_or_eq_true ((k == 1)) with hb1 | hb1
  · skip
    refine reg [(1, .dec true)] [1, 5, 6] hG hS (env := [(1, .int .i64 n), (5, .int .u8 k), (6, .bool true)]) (own := []) (obs := [(k == 1) = true]) (by kernel_rfl) (hb1) fun ac wd hS => ?_
    refine cond_yes hS (c := true) (by kernel_rfl) rfl ?_
    refine runs_skip ?_
    refine cond_yes hS (c := true) (by kernel_rfl) rfl ?_
    refine runs_seq ?_
    refine reg [] [4] hG hS (env := [(4, .bool (n == 0))]) (own := []) (obs := []) (by kernel_rfl) (trivial) fun ac wd hS => ?_
    rw [show (.bool (centsB k n) : AV) = .bool (n == 0) from by ((try simp only [decide_eq_true_eq, decide_eq_false_iff_not, beq_iff_eq, beq_eq_false_iff_ne] at hb1); first | (simp [centsB, hb1]; done) | (simp [centsB, hb1]; omega) | (congr 1; simp only [centsB]; grind))]
    exact retz Tryz.func137 rfl hB hBd hS (by kernel_rfl) rfl
  · skip
    refine reg [(1, .dec false)] [1, 5, 6] hG hS (env := [(1, .int .i64 n), (5, .int .u8 k), (6, .bool false)]) (own := []) (obs := [(k == 1) = false]) (by kernel_rfl) (hb1) fun ac wd hS => ?_
    refine cond_no hS (c := false) (by kernel_rfl) rfl ?_
    rcases Bool.eq_false_or_eq_true ((k == 7)) with hb2 | hb2
    · skip
      refine reg [(1, .dec true)] [1, 5, 6] hG hS (env := [(1, .int .i64 n), (5, .int .u8 k), (6, .bool true)]) (own := []) (obs := [(k == 7) = true]) (by kernel_rfl) (hb2) fun ac wd hS => ?_
      refine cond_yes hS (c := true) (by kernel_rfl) rfl ?_
      refine runs_seq ?_
      refine reg [] [4] hG hS (env := [(4, .bool (n == 0))]) (own := []) (obs := []) (by kernel_rfl) (trivial) fun ac wd hS => ?_
      rw [show (.bool (centsB k n) : AV) = .bool (n == 0) from by ((try simp only [decide_eq_true_eq, decide_eq_false_iff_not, beq_iff_eq, beq_eq_false_iff_ne] at hb1); (try simp only [decide_eq_true_eq, decide_eq_false_iff_not, beq_iff_eq, beq_eq_false_iff_ne] at hb2); first | (simp [centsB, hb1, hb2]; done) | (simp [centsB, hb1, hb2]; omega) | (congr 1; simp only [centsB]; grind))]
      exact retz Tryz.func137 rfl hB hBd hS (by kernel_rfl) rfl
    · skip
      refine reg [(1, .dec false)] [1, 5, 6] hG hS (env := [(1, .int .i64 n), (5, .int .u8 k), (6, .bool false)]) (own := []) (obs := [(k == 7) = false]) (by kernel_rfl) (hb2) fun ac wd hS => ?_
      refine cond_no hS (c := false) (by kernel_rfl) rfl ?_
      refine runs_seq ?_
      rcases Bool.eq_false_or_eq_true ((k == 5)) with hb3 | hb3
      · skip
        refine reg [(1, .dec true)] [1, 11] hG hS (env := [(1, .int .i64 n), (11, .bool true)]) (own := []) (obs := [(k == 5) = true]) (by kernel_rfl) (hb3) fun ac wd hS => ?_
        refine cond_yes hS (c := true) (by kernel_rfl) rfl ?_
        refine runs_seq ?_
        refine reg [(1, .av (.bool (within n 0 10000)))] [4] hG hS (env := [(4, .bool (within n 0 10000))]) (own := []) (obs := [CallA Tryz.prog GT 84 [.int .i64 n, .int .i64 0, .int .i64 10000] (.bool (within n 0 10000))]) (by kernel_rfl) ((within_ok84 _ _ _)) fun ac wd hS => ?_
        rw [show (.bool (centsB k n) : AV) = .bool (within n 0 10000) from by ((try simp only [decide_eq_true_eq, decide_eq_false_iff_not, beq_iff_eq, beq_eq_false_iff_ne] at hb1); (try simp only [decide_eq_true_eq, decide_eq_false_iff_not, beq_iff_eq, beq_eq_false_iff_ne] at hb2); (try simp only [decide_eq_true_eq, decide_eq_false_iff_not, beq_iff_eq, beq_eq_false_iff_ne] at hb3); first | (simp [centsB, hb1, hb2, hb3]; done) | (simp [centsB, hb1, hb2, hb3]; omega) | (congr 1; simp only [centsB]; grind))]
        exact retz Tryz.func137 rfl hB hBd hS (by kernel_rfl) rfl
      · skip
        refine reg [(1, .dec false)] [1, 11] hG hS (env := [(1, .int .i64 n), (11, .bool false)]) (own := []) (obs := [(k == 5) = false]) (by kernel_rfl) (hb3) fun ac wd hS => ?_
        refine cond_no hS (c := false) (by kernel_rfl) rfl ?_
        refine runs_skip ?_
        refine runs_inBlock ?_
        refine runs_seq ?_
        refine reg [(1, .av (.bool (within n 0 1000000000000)))] [4] hG hS (env := [(4, .bool (within n 0 1000000000000))]) (own := []) (obs := [CallA Tryz.prog GT 84 [.int .i64 n, .int .i64 0, .int .i64 1000000000000] (.bool (within n 0 1000000000000))]) (by kernel_rfl) ((within_ok84 _ _ _)) fun ac wd hS => ?_
        rw [show (.bool (centsB k n) : AV) = .bool (within n 0 1000000000000) from by ((try simp only [decide_eq_true_eq, decide_eq_false_iff_not, beq_iff_eq, beq_eq_false_iff_ne] at hb1); (try simp only [decide_eq_true_eq, decide_eq_false_iff_not, beq_iff_eq, beq_eq_false_iff_ne] at hb2); (try simp only [decide_eq_true_eq, decide_eq_false_iff_not, beq_iff_eq, beq_eq_false_iff_ne] at hb3); first | (simp [centsB, hb1, hb2, hb3]; done) | (simp [centsB, hb1, hb2, hb3]; omega) | (congr 1; simp only [centsB]; grind))]
        exact retz Tryz.func137 rfl hB hBd hS (by kernel_rfl) rfl
theorem valid_ok (r : Report) : CallA Tryz.prog GT 99 [Report.av r] (.bool (validB r)) := by
  refine callA_of Tryz.func99 rfl (by simp [Tryz.f99]) rfl fun B ac hB hBd hG hS => ?_
  refine runs_seq ?_
  refine reg [] [1] hG hS (env := [(1, .box 0 0)]) (own := [.box none 73 [.int .i64 r.Id, .int .i64 r.Source, .int .i64 r.Account, .int .i64 r.Made, .int .i64 r.About, .int .u8 (U8.i r.Kind), .int .i64 r.Cents, .int .i64 r.Of]]) (obs := []) (by kernel_rfl) (trivial) fun ac wd hS => ?_
  refine runs_seq ?_
  refine runs_seq ?_
  rcases Bool.eq_false_or_eq_true (within r.Id 0 999999) with hb1 | hb1
  · skip
    rcases Bool.eq_false_or_eq_true (within r.Source 0 999999) with hb2 | hb2
    · skip
      rcases Bool.eq_false_or_eq_true (within r.Account 0 999999) with hb3 | hb3
      · skip
        rcases Bool.eq_false_or_eq_true (within r.Made 0 100000) with hb4 | hb4
        · skip
          rcases Bool.eq_false_or_eq_true (within r.About 0 100000) with hb5 | hb5
          · skip
            rcases Bool.eq_false_or_eq_true (within (U8.i r.Kind) 1 9) with hb6 | hb6
            · skip
              refine reg [(2, .av (.bool (within r.Id 0 999999))), (4, .dec false), (7, .av (.bool (within r.Source 0 999999))), (10, .dec false), (13, .av (.bool (within r.Account 0 999999))), (16, .dec false), (19, .av (.bool (within r.Made 0 100000))), (22, .dec false), (25, .av (.bool (within r.About 0 100000))), (28, .dec false), (31, .is (U8.i r.Kind)), (32, .av (.bool (within (U8.i r.Kind) 1 9))), (34, .dec false)] [1, 37] hG hS (env := [(1, .box 0 0), (37, .bool false)]) (own := [.box none 73 [.int .i64 r.Id, .int .i64 r.Source, .int .i64 r.Account, .int .i64 r.Made, .int .i64 r.About, .int .u8 (U8.i r.Kind), .int .i64 r.Cents, .int .i64 r.Of]]) (obs := [CallA Tryz.prog GT 84 [.int .i64 r.Id, .int .i64 0, .int .i64 999999] (.bool (within r.Id 0 999999)), (!within r.Id 0 999999) = false, CallA Tryz.prog GT 84 [.int .i64 r.Source, .int .i64 0, .int .i64 999999] (.bool (within r.Source 0 999999)), (!within r.Source 0 999999) = false, CallA Tryz.prog GT 84 [.int .i64 r.Account, .int .i64 0, .int .i64 999999] (.bool (within r.Account 0 999999)), (!within r.Account 0 999999) = false, CallA Tryz.prog GT 84 [.int .i64 r.Made, .int .i64 0, .int .i64 100000] (.bool (within r.Made 0 100000)), (!within r.Made 0 100000) = false, CallA Tryz.prog GT 84 [.int .i64 r.About, .int .i64 0, .int .i64 100000] (.bool (within r.About 0 100000)), (!within r.About 0 100000) = false, IntKind.i64.wrap (U8.i r.Kind) = (U8.i r.Kind), CallA Tryz.prog GT 84 [.int .i64 (U8.i r.Kind), .int .i64 1, .int .i64 9] (.bool (within (U8.i r.Kind) 1 9)), (!within (U8.i r.Kind) 1 9) = false]) (by kernel_rfl) (⟨(within_ok84 _ _ _), by rw [hb1]; rfl, (within_ok84 _ _ _), by rw [hb2]; rfl, (within_ok84 _ _ _), by rw [hb3]; rfl, (within_ok84 _ _ _), by rw [hb4]; rfl, (within_ok84 _ _ _), by rw [hb5]; rfl, (wrap_u8 _), (within_ok84 _ _ _), by rw [hb6]; rfl⟩) fun ac wd hS => ?_
              refine cond_no hS (c := false) (by kernel_rfl) rfl ?_
              refine runs_skip ?_
              refine runs_seq ?_
              refine runs_seq ?_
              rcases Bool.eq_false_or_eq_true (decide ((U8.i r.Kind) ≤ 7)) with hb7 | hb7
              · skip
                refine reg [(2, .dec true)] [1, 40] hG hS (env := [(1, .box 0 0), (40, .bool true)]) (own := [.box none 73 [.int .i64 r.Id, .int .i64 r.Source, .int .i64 r.Account, .int .i64 r.Made, .int .i64 r.About, .int .u8 (U8.i r.Kind), .int .i64 r.Cents, .int .i64 r.Of]]) (obs := [decide ((U8.i r.Kind) ≤ 7) = true]) (by kernel_rfl) (hb7) fun ac wd hS => ?_
                refine cond_yes hS (c := true) (by kernel_rfl) rfl ?_
                refine runs_seq ?_
                rcases Bool.eq_false_or_eq_true (centsB (U8.i r.Kind) r.Cents) with hb8 | hb8
                · skip
                  refine reg [(4, .av (.bool (centsB (U8.i r.Kind) r.Cents))), (5, .dec true)] [2] hG hS (env := [(2, .bool (r.Of == 0))]) (own := [.box none 73 [.int .i64 r.Id, .int .i64 r.Source, .int .i64 r.Account, .int .i64 r.Made, .int .i64 r.About, .int .u8 (U8.i r.Kind), .int .i64 r.Cents, .int .i64 r.Of]]) (obs := [CallA Tryz.prog GT 137 [.int .u8 (U8.i r.Kind), .int .i64 r.Cents] (.bool (centsB (U8.i r.Kind) r.Cents)), centsB (U8.i r.Kind) r.Cents = true]) (by kernel_rfl) (⟨(cents_ok _ _), hb8⟩) fun ac wd hS => ?_
                  rw [show (.bool (validB r) : AV) = .bool (r.Of == 0) from by ((try simp only [decide_eq_true_eq, decide_eq_false_iff_not, beq_iff_eq, beq_eq_false_iff_ne] at hb1); (try simp only [decide_eq_true_eq, decide_eq_false_iff_not, beq_iff_eq, beq_eq_false_iff_ne] at hb2); (try simp only [decide_eq_true_eq, decide_eq_false_iff_not, beq_iff_eq, beq_eq_false_iff_ne] at hb3); (try simp only [decide_eq_true_eq, decide_eq_false_iff_not, beq_iff_eq, beq_eq_false_iff_ne] at hb4); (try simp only [decide_eq_true_eq, decide_eq_false_iff_not, beq_iff_eq, beq_eq_false_iff_ne] at hb5); (try simp only [decide_eq_true_eq, decide_eq_false_iff_not, beq_iff_eq, beq_eq_false_iff_ne] at hb6); (try simp only [decide_eq_true_eq, decide_eq_false_iff_not, beq_iff_eq, beq_eq_false_iff_ne] at hb7); (try simp only [decide_eq_true_eq, decide_eq_false_iff_not, beq_iff_eq, beq_eq_false_iff_ne] at hb8); first | (simp [validB, hb1, hb2, hb3, hb4, hb5, hb6, hb7, hb8]; done) | (simp [validB, hb1, hb2, hb3, hb4, hb5, hb6, hb7, hb8]; omega) | (congr 1; simp only [validB]; grind))]
                  exact retz Tryz.func99 rfl hB hBd hS (by kernel_rfl) rfl
                · skip
                  refine reg [(4, .av (.bool (centsB (U8.i r.Kind) r.Cents))), (5, .dec false)] [2] hG hS (env := [(2, .bool false)]) (own := [.box none 73 [.int .i64 r.Id, .int .i64 r.Source, .int .i64 r.Account, .int .i64 r.Made, .int .i64 r.About, .int .u8 (U8.i r.Kind), .int .i64 r.Cents, .int .i64 r.Of]]) (obs := [CallA Tryz.prog GT 137 [.int .u8 (U8.i r.Kind), .int .i64 r.Cents] (.bool (centsB (U8.i r.Kind) r.Cents)), centsB (U8.i r.Kind) r.Cents = false]) (by kernel_rfl) (⟨(cents_ok _ _), hb8⟩) fun ac wd hS => ?_
                  rw [show (.bool (validB r) : AV) = .bool false from by ((try simp only [decide_eq_true_eq, decide_eq_false_iff_not, beq_iff_eq, beq_eq_false_iff_ne] at hb1); (try simp only [decide_eq_true_eq, decide_eq_false_iff_not, beq_iff_eq, beq_eq_false_iff_ne] at hb2); (try simp only [decide_eq_true_eq, decide_eq_false_iff_not, beq_iff_eq, beq_eq_false_iff_ne] at hb3); (try simp only [decide_eq_true_eq, decide_eq_false_iff_not, beq_iff_eq, beq_eq_false_iff_ne] at hb4); (try simp only [decide_eq_true_eq, decide_eq_false_iff_not, beq_iff_eq, beq_eq_false_iff_ne] at hb5); (try simp only [decide_eq_true_eq, decide_eq_false_iff_not, beq_iff_eq, beq_eq_false_iff_ne] at hb6); (try simp only [decide_eq_true_eq, decide_eq_false_iff_not, beq_iff_eq, beq_eq_false_iff_ne] at hb7); (try simp only [decide_eq_true_eq, decide_eq_false_iff_not, beq_iff_eq, beq_eq_false_iff_ne] at hb8); first | (simp [validB, hb1, hb2, hb3, hb4, hb5, hb6, hb7, hb8]; done) | (simp [validB, hb1, hb2, hb3, hb4, hb5, hb6, hb7, hb8]; omega) | (congr 1; simp only [validB]; grind))]
                  exact retz Tryz.func99 rfl hB hBd hS (by kernel_rfl) rfl
              · skip
                refine reg [(2, .dec false)] [1, 40] hG hS (env := [(1, .box 0 0), (40, .bool false)]) (own := [.box none 73 [.int .i64 r.Id, .int .i64 r.Source, .int .i64 r.Account, .int .i64 r.Made, .int .i64 r.About, .int .u8 (U8.i r.Kind), .int .i64 r.Cents, .int .i64 r.Of]]) (obs := [decide ((U8.i r.Kind) ≤ 7) = false]) (by kernel_rfl) (hb7) fun ac wd hS => ?_
                refine cond_no hS (c := false) (by kernel_rfl) rfl ?_
                refine runs_skip ?_
                refine runs_seq ?_
                refine runs_seq ?_
                rcases Bool.eq_false_or_eq_true (within r.Of 0 999999) with hb9 | hb9
                · skip
                  rcases Bool.eq_false_or_eq_true ((r.Of == r.Id)) with hb10 | hb10
                  · skip
                    refine reg [(2, .av (.bool (within r.Of 0 999999))), (4, .dec false), (10, .dec true)] [1, 61] hG hS (env := [(1, .box 0 0), (61, .bool true)]) (own := [.box none 73 [.int .i64 r.Id, .int .i64 r.Source, .int .i64 r.Account, .int .i64 r.Made, .int .i64 r.About, .int .u8 (U8.i r.Kind), .int .i64 r.Cents, .int .i64 r.Of]]) (obs := [CallA Tryz.prog GT 84 [.int .i64 r.Of, .int .i64 0, .int .i64 999999] (.bool (within r.Of 0 999999)), (!within r.Of 0 999999) = false, (r.Of == r.Id) = true]) (by kernel_rfl) (⟨(within_ok84 _ _ _), by rw [hb9]; rfl, hb10⟩) fun ac wd hS => ?_
                    refine cond_yes hS (c := true) (by kernel_rfl) rfl ?_
                    refine runs_seq ?_
                    refine reg [] [2] hG hS (env := [(2, .bool false)]) (own := [.box none 73 [.int .i64 r.Id, .int .i64 r.Source, .int .i64 r.Account, .int .i64 r.Made, .int .i64 r.About, .int .u8 (U8.i r.Kind), .int .i64 r.Cents, .int .i64 r.Of]]) (obs := []) (by kernel_rfl) (trivial) fun ac wd hS => ?_
                    rw [show (.bool (validB r) : AV) = .bool false from by ((try simp only [decide_eq_true_eq, decide_eq_false_iff_not, beq_iff_eq, beq_eq_false_iff_ne] at hb1); (try simp only [decide_eq_true_eq, decide_eq_false_iff_not, beq_iff_eq, beq_eq_false_iff_ne] at hb2); (try simp only [decide_eq_true_eq, decide_eq_false_iff_not, beq_iff_eq, beq_eq_false_iff_ne] at hb3); (try simp only [decide_eq_true_eq, decide_eq_false_iff_not, beq_iff_eq, beq_eq_false_iff_ne] at hb4); (try simp only [decide_eq_true_eq, decide_eq_false_iff_not, beq_iff_eq, beq_eq_false_iff_ne] at hb5); (try simp only [decide_eq_true_eq, decide_eq_false_iff_not, beq_iff_eq, beq_eq_false_iff_ne] at hb6); (try simp only [decide_eq_true_eq, decide_eq_false_iff_not, beq_iff_eq, beq_eq_false_iff_ne] at hb7); (try simp only [decide_eq_true_eq, decide_eq_false_iff_not, beq_iff_eq, beq_eq_false_iff_ne] at hb9); (try simp only [decide_eq_true_eq, decide_eq_false_iff_not, beq_iff_eq, beq_eq_false_iff_ne] at hb10); first | (simp [validB, hb1, hb2, hb3, hb4, hb5, hb6, hb7, hb9, hb10]; done) | (simp [validB, hb1, hb2, hb3, hb4, hb5, hb6, hb7, hb9, hb10]; omega) | (congr 1; simp only [validB]; grind))]
                    exact retz Tryz.func99 rfl hB hBd hS (by kernel_rfl) rfl
                  · skip
                    refine reg [(2, .av (.bool (within r.Of 0 999999))), (4, .dec false), (10, .dec false)] [1, 61] hG hS (env := [(1, .box 0 0), (61, .bool false)]) (own := [.box none 73 [.int .i64 r.Id, .int .i64 r.Source, .int .i64 r.Account, .int .i64 r.Made, .int .i64 r.About, .int .u8 (U8.i r.Kind), .int .i64 r.Cents, .int .i64 r.Of]]) (obs := [CallA Tryz.prog GT 84 [.int .i64 r.Of, .int .i64 0, .int .i64 999999] (.bool (within r.Of 0 999999)), (!within r.Of 0 999999) = false, (r.Of == r.Id) = false]) (by kernel_rfl) (⟨(within_ok84 _ _ _), by rw [hb9]; rfl, hb10⟩) fun ac wd hS => ?_
                    refine cond_no hS (c := false) (by kernel_rfl) rfl ?_
                    refine runs_skip ?_
                    refine runs_seq ?_
                    refine runs_seq ?_
                    rcases Bool.eq_false_or_eq_true (((U8.i r.Kind) == 8)) with hb11 | hb11
                    · skip
                      refine reg [(2, .dec true)] [1, 64] hG hS (env := [(1, .box 0 0), (64, .bool true)]) (own := [.box none 73 [.int .i64 r.Id, .int .i64 r.Source, .int .i64 r.Account, .int .i64 r.Made, .int .i64 r.About, .int .u8 (U8.i r.Kind), .int .i64 r.Cents, .int .i64 r.Of]]) (obs := [((U8.i r.Kind) == 8) = true]) (by kernel_rfl) (hb11) fun ac wd hS => ?_
                      refine cond_yes hS (c := true) (by kernel_rfl) rfl ?_
                      refine runs_seq ?_
                      refine reg [(2, .av (.bool (within r.Cents 0 1000000000000)))] [2] hG hS (env := [(2, .bool (within r.Cents 0 1000000000000))]) (own := [.box none 73 [.int .i64 r.Id, .int .i64 r.Source, .int .i64 r.Account, .int .i64 r.Made, .int .i64 r.About, .int .u8 (U8.i r.Kind), .int .i64 r.Cents, .int .i64 r.Of]]) (obs := [CallA Tryz.prog GT 84 [.int .i64 r.Cents, .int .i64 0, .int .i64 1000000000000] (.bool (within r.Cents 0 1000000000000))]) (by kernel_rfl) ((within_ok84 _ _ _)) fun ac wd hS => ?_
                      rw [show (.bool (validB r) : AV) = .bool (within r.Cents 0 1000000000000) from by ((try simp only [decide_eq_true_eq, decide_eq_false_iff_not, beq_iff_eq, beq_eq_false_iff_ne] at hb1); (try simp only [decide_eq_true_eq, decide_eq_false_iff_not, beq_iff_eq, beq_eq_false_iff_ne] at hb2); (try simp only [decide_eq_true_eq, decide_eq_false_iff_not, beq_iff_eq, beq_eq_false_iff_ne] at hb3); (try simp only [decide_eq_true_eq, decide_eq_false_iff_not, beq_iff_eq, beq_eq_false_iff_ne] at hb4); (try simp only [decide_eq_true_eq, decide_eq_false_iff_not, beq_iff_eq, beq_eq_false_iff_ne] at hb5); (try simp only [decide_eq_true_eq, decide_eq_false_iff_not, beq_iff_eq, beq_eq_false_iff_ne] at hb6); (try simp only [decide_eq_true_eq, decide_eq_false_iff_not, beq_iff_eq, beq_eq_false_iff_ne] at hb7); (try simp only [decide_eq_true_eq, decide_eq_false_iff_not, beq_iff_eq, beq_eq_false_iff_ne] at hb9); (try simp only [decide_eq_true_eq, decide_eq_false_iff_not, beq_iff_eq, beq_eq_false_iff_ne] at hb10); (try simp only [decide_eq_true_eq, decide_eq_false_iff_not, beq_iff_eq, beq_eq_false_iff_ne] at hb11); first | (simp [validB, hb1, hb2, hb3, hb4, hb5, hb6, hb7, hb9, hb10, hb11]; done) | (simp [validB, hb1, hb2, hb3, hb4, hb5, hb6, hb7, hb9, hb10, hb11]; omega) | (congr 1; simp only [validB]; grind))]
                      exact retz Tryz.func99 rfl hB hBd hS (by kernel_rfl) rfl
                    · skip
                      refine reg [(2, .dec false)] [1, 64] hG hS (env := [(1, .box 0 0), (64, .bool false)]) (own := [.box none 73 [.int .i64 r.Id, .int .i64 r.Source, .int .i64 r.Account, .int .i64 r.Made, .int .i64 r.About, .int .u8 (U8.i r.Kind), .int .i64 r.Cents, .int .i64 r.Of]]) (obs := [((U8.i r.Kind) == 8) = false]) (by kernel_rfl) (hb11) fun ac wd hS => ?_
                      refine cond_no hS (c := false) (by kernel_rfl) rfl ?_
                      refine runs_skip ?_
                      refine runs_seq ?_
                      rcases Bool.eq_false_or_eq_true ((r.Cents == 0)) with hb12 | hb12
                      · skip
                        refine reg [(3, .dec true)] [2] hG hS (env := [(2, .bool (r.About == 0))]) (own := [.box none 73 [.int .i64 r.Id, .int .i64 r.Source, .int .i64 r.Account, .int .i64 r.Made, .int .i64 r.About, .int .u8 (U8.i r.Kind), .int .i64 r.Cents, .int .i64 r.Of]]) (obs := [(r.Cents == 0) = true]) (by kernel_rfl) (hb12) fun ac wd hS => ?_
                        rw [show (.bool (validB r) : AV) = .bool (r.About == 0) from by ((try simp only [decide_eq_true_eq, decide_eq_false_iff_not, beq_iff_eq, beq_eq_false_iff_ne] at hb1); (try simp only [decide_eq_true_eq, decide_eq_false_iff_not, beq_iff_eq, beq_eq_false_iff_ne] at hb2); (try simp only [decide_eq_true_eq, decide_eq_false_iff_not, beq_iff_eq, beq_eq_false_iff_ne] at hb3); (try simp only [decide_eq_true_eq, decide_eq_false_iff_not, beq_iff_eq, beq_eq_false_iff_ne] at hb4); (try simp only [decide_eq_true_eq, decide_eq_false_iff_not, beq_iff_eq, beq_eq_false_iff_ne] at hb5); (try simp only [decide_eq_true_eq, decide_eq_false_iff_not, beq_iff_eq, beq_eq_false_iff_ne] at hb6); (try simp only [decide_eq_true_eq, decide_eq_false_iff_not, beq_iff_eq, beq_eq_false_iff_ne] at hb7); (try simp only [decide_eq_true_eq, decide_eq_false_iff_not, beq_iff_eq, beq_eq_false_iff_ne] at hb9); (try simp only [decide_eq_true_eq, decide_eq_false_iff_not, beq_iff_eq, beq_eq_false_iff_ne] at hb10); (try simp only [decide_eq_true_eq, decide_eq_false_iff_not, beq_iff_eq, beq_eq_false_iff_ne] at hb11); (try simp only [decide_eq_true_eq, decide_eq_false_iff_not, beq_iff_eq, beq_eq_false_iff_ne] at hb12); first | (simp [validB, hb1, hb2, hb3, hb4, hb5, hb6, hb7, hb9, hb10, hb11, hb12]; done) | (simp [validB, hb1, hb2, hb3, hb4, hb5, hb6, hb7, hb9, hb10, hb11, hb12]; omega) | (congr 1; simp only [validB]; grind))]
                        exact retz Tryz.func99 rfl hB hBd hS (by kernel_rfl) rfl
                      · skip
                        refine reg [(3, .dec false)] [2] hG hS (env := [(2, .bool false)]) (own := [.box none 73 [.int .i64 r.Id, .int .i64 r.Source, .int .i64 r.Account, .int .i64 r.Made, .int .i64 r.About, .int .u8 (U8.i r.Kind), .int .i64 r.Cents, .int .i64 r.Of]]) (obs := [(r.Cents == 0) = false]) (by kernel_rfl) (hb12) fun ac wd hS => ?_
                        rw [show (.bool (validB r) : AV) = .bool false from by ((try simp only [decide_eq_true_eq, decide_eq_false_iff_not, beq_iff_eq, beq_eq_false_iff_ne] at hb1); (try simp only [decide_eq_true_eq, decide_eq_false_iff_not, beq_iff_eq, beq_eq_false_iff_ne] at hb2); (try simp only [decide_eq_true_eq, decide_eq_false_iff_not, beq_iff_eq, beq_eq_false_iff_ne] at hb3); (try simp only [decide_eq_true_eq, decide_eq_false_iff_not, beq_iff_eq, beq_eq_false_iff_ne] at hb4); (try simp only [decide_eq_true_eq, decide_eq_false_iff_not, beq_iff_eq, beq_eq_false_iff_ne] at hb5); (try simp only [decide_eq_true_eq, decide_eq_false_iff_not, beq_iff_eq, beq_eq_false_iff_ne] at hb6); (try simp only [decide_eq_true_eq, decide_eq_false_iff_not, beq_iff_eq, beq_eq_false_iff_ne] at hb7); (try simp only [decide_eq_true_eq, decide_eq_false_iff_not, beq_iff_eq, beq_eq_false_iff_ne] at hb9); (try simp only [decide_eq_true_eq, decide_eq_false_iff_not, beq_iff_eq, beq_eq_false_iff_ne] at hb10); (try simp only [decide_eq_true_eq, decide_eq_false_iff_not, beq_iff_eq, beq_eq_false_iff_ne] at hb11); (try simp only [decide_eq_true_eq, decide_eq_false_iff_not, beq_iff_eq, beq_eq_false_iff_ne] at hb12); first | (simp [validB, hb1, hb2, hb3, hb4, hb5, hb6, hb7, hb9, hb10, hb11, hb12]; done) | (simp [validB, hb1, hb2, hb3, hb4, hb5, hb6, hb7, hb9, hb10, hb11, hb12]; omega) | (congr 1; simp only [validB]; grind))]
                        exact retz Tryz.func99 rfl hB hBd hS (by kernel_rfl) rfl
                · skip
                  refine reg [(2, .av (.bool (within r.Of 0 999999))), (4, .dec true)] [1, 61] hG hS (env := [(1, .box 0 0), (61, .bool true)]) (own := [.box none 73 [.int .i64 r.Id, .int .i64 r.Source, .int .i64 r.Account, .int .i64 r.Made, .int .i64 r.About, .int .u8 (U8.i r.Kind), .int .i64 r.Cents, .int .i64 r.Of]]) (obs := [CallA Tryz.prog GT 84 [.int .i64 r.Of, .int .i64 0, .int .i64 999999] (.bool (within r.Of 0 999999)), (!within r.Of 0 999999) = true]) (by kernel_rfl) (⟨(within_ok84 _ _ _), by rw [hb9]; rfl⟩) fun ac wd hS => ?_
                  refine cond_yes hS (c := true) (by kernel_rfl) rfl ?_
                  refine runs_seq ?_
                  refine reg [] [2] hG hS (env := [(2, .bool false)]) (own := [.box none 73 [.int .i64 r.Id, .int .i64 r.Source, .int .i64 r.Account, .int .i64 r.Made, .int .i64 r.About, .int .u8 (U8.i r.Kind), .int .i64 r.Cents, .int .i64 r.Of]]) (obs := []) (by kernel_rfl) (trivial) fun ac wd hS => ?_
                  rw [show (.bool (validB r) : AV) = .bool false from by ((try simp only [decide_eq_true_eq, decide_eq_false_iff_not, beq_iff_eq, beq_eq_false_iff_ne] at hb1); (try simp only [decide_eq_true_eq, decide_eq_false_iff_not, beq_iff_eq, beq_eq_false_iff_ne] at hb2); (try simp only [decide_eq_true_eq, decide_eq_false_iff_not, beq_iff_eq, beq_eq_false_iff_ne] at hb3); (try simp only [decide_eq_true_eq, decide_eq_false_iff_not, beq_iff_eq, beq_eq_false_iff_ne] at hb4); (try simp only [decide_eq_true_eq, decide_eq_false_iff_not, beq_iff_eq, beq_eq_false_iff_ne] at hb5); (try simp only [decide_eq_true_eq, decide_eq_false_iff_not, beq_iff_eq, beq_eq_false_iff_ne] at hb6); (try simp only [decide_eq_true_eq, decide_eq_false_iff_not, beq_iff_eq, beq_eq_false_iff_ne] at hb7); (try simp only [decide_eq_true_eq, decide_eq_false_iff_not, beq_iff_eq, beq_eq_false_iff_ne] at hb9); first | (simp [validB, hb1, hb2, hb3, hb4, hb5, hb6, hb7, hb9]; done) | (simp [validB, hb1, hb2, hb3, hb4, hb5, hb6, hb7, hb9]; omega) | (congr 1; simp only [validB]; grind))]
                  exact retz Tryz.func99 rfl hB hBd hS (by kernel_rfl) rfl
            · skip
              refine reg [(2, .av (.bool (within r.Id 0 999999))), (4, .dec false), (7, .av (.bool (within r.Source 0 999999))), (10, .dec false), (13, .av (.bool (within r.Account 0 999999))), (16, .dec false), (19, .av (.bool (within r.Made 0 100000))), (22, .dec false), (25, .av (.bool (within r.About 0 100000))), (28, .dec false), (31, .is (U8.i r.Kind)), (32, .av (.bool (within (U8.i r.Kind) 1 9))), (34, .dec true)] [1, 37] hG hS (env := [(1, .box 0 0), (37, .bool true)]) (own := [.box none 73 [.int .i64 r.Id, .int .i64 r.Source, .int .i64 r.Account, .int .i64 r.Made, .int .i64 r.About, .int .u8 (U8.i r.Kind), .int .i64 r.Cents, .int .i64 r.Of]]) (obs := [CallA Tryz.prog GT 84 [.int .i64 r.Id, .int .i64 0, .int .i64 999999] (.bool (within r.Id 0 999999)), (!within r.Id 0 999999) = false, CallA Tryz.prog GT 84 [.int .i64 r.Source, .int .i64 0, .int .i64 999999] (.bool (within r.Source 0 999999)), (!within r.Source 0 999999) = false, CallA Tryz.prog GT 84 [.int .i64 r.Account, .int .i64 0, .int .i64 999999] (.bool (within r.Account 0 999999)), (!within r.Account 0 999999) = false, CallA Tryz.prog GT 84 [.int .i64 r.Made, .int .i64 0, .int .i64 100000] (.bool (within r.Made 0 100000)), (!within r.Made 0 100000) = false, CallA Tryz.prog GT 84 [.int .i64 r.About, .int .i64 0, .int .i64 100000] (.bool (within r.About 0 100000)), (!within r.About 0 100000) = false, IntKind.i64.wrap (U8.i r.Kind) = (U8.i r.Kind), CallA Tryz.prog GT 84 [.int .i64 (U8.i r.Kind), .int .i64 1, .int .i64 9] (.bool (within (U8.i r.Kind) 1 9)), (!within (U8.i r.Kind) 1 9) = true]) (by kernel_rfl) (⟨(within_ok84 _ _ _), by rw [hb1]; rfl, (within_ok84 _ _ _), by rw [hb2]; rfl, (within_ok84 _ _ _), by rw [hb3]; rfl, (within_ok84 _ _ _), by rw [hb4]; rfl, (within_ok84 _ _ _), by rw [hb5]; rfl, (wrap_u8 _), (within_ok84 _ _ _), by rw [hb6]; rfl⟩) fun ac wd hS => ?_
              refine cond_yes hS (c := true) (by kernel_rfl) rfl ?_
              refine runs_seq ?_
              refine reg [] [2] hG hS (env := [(2, .bool false)]) (own := [.box none 73 [.int .i64 r.Id, .int .i64 r.Source, .int .i64 r.Account, .int .i64 r.Made, .int .i64 r.About, .int .u8 (U8.i r.Kind), .int .i64 r.Cents, .int .i64 r.Of]]) (obs := []) (by kernel_rfl) (trivial) fun ac wd hS => ?_
              rw [show (.bool (validB r) : AV) = .bool false from by ((try simp only [decide_eq_true_eq, decide_eq_false_iff_not, beq_iff_eq, beq_eq_false_iff_ne] at hb1); (try simp only [decide_eq_true_eq, decide_eq_false_iff_not, beq_iff_eq, beq_eq_false_iff_ne] at hb2); (try simp only [decide_eq_true_eq, decide_eq_false_iff_not, beq_iff_eq, beq_eq_false_iff_ne] at hb3); (try simp only [decide_eq_true_eq, decide_eq_false_iff_not, beq_iff_eq, beq_eq_false_iff_ne] at hb4); (try simp only [decide_eq_true_eq, decide_eq_false_iff_not, beq_iff_eq, beq_eq_false_iff_ne] at hb5); (try simp only [decide_eq_true_eq, decide_eq_false_iff_not, beq_iff_eq, beq_eq_false_iff_ne] at hb6); first | (simp [validB, hb1, hb2, hb3, hb4, hb5, hb6]; done) | (simp [validB, hb1, hb2, hb3, hb4, hb5, hb6]; omega) | (congr 1; simp only [validB]; grind))]
              exact retz Tryz.func99 rfl hB hBd hS (by kernel_rfl) rfl
          · skip
            refine reg [(2, .av (.bool (within r.Id 0 999999))), (4, .dec false), (7, .av (.bool (within r.Source 0 999999))), (10, .dec false), (13, .av (.bool (within r.Account 0 999999))), (16, .dec false), (19, .av (.bool (within r.Made 0 100000))), (22, .dec false), (25, .av (.bool (within r.About 0 100000))), (28, .dec true)] [1, 37] hG hS (env := [(1, .box 0 0), (37, .bool true)]) (own := [.box none 73 [.int .i64 r.Id, .int .i64 r.Source, .int .i64 r.Account, .int .i64 r.Made, .int .i64 r.About, .int .u8 (U8.i r.Kind), .int .i64 r.Cents, .int .i64 r.Of]]) (obs := [CallA Tryz.prog GT 84 [.int .i64 r.Id, .int .i64 0, .int .i64 999999] (.bool (within r.Id 0 999999)), (!within r.Id 0 999999) = false, CallA Tryz.prog GT 84 [.int .i64 r.Source, .int .i64 0, .int .i64 999999] (.bool (within r.Source 0 999999)), (!within r.Source 0 999999) = false, CallA Tryz.prog GT 84 [.int .i64 r.Account, .int .i64 0, .int .i64 999999] (.bool (within r.Account 0 999999)), (!within r.Account 0 999999) = false, CallA Tryz.prog GT 84 [.int .i64 r.Made, .int .i64 0, .int .i64 100000] (.bool (within r.Made 0 100000)), (!within r.Made 0 100000) = false, CallA Tryz.prog GT 84 [.int .i64 r.About, .int .i64 0, .int .i64 100000] (.bool (within r.About 0 100000)), (!within r.About 0 100000) = true]) (by kernel_rfl) (⟨(within_ok84 _ _ _), by rw [hb1]; rfl, (within_ok84 _ _ _), by rw [hb2]; rfl, (within_ok84 _ _ _), by rw [hb3]; rfl, (within_ok84 _ _ _), by rw [hb4]; rfl, (within_ok84 _ _ _), by rw [hb5]; rfl⟩) fun ac wd hS => ?_
            refine cond_yes hS (c := true) (by kernel_rfl) rfl ?_
            refine runs_seq ?_
            refine reg [] [2] hG hS (env := [(2, .bool false)]) (own := [.box none 73 [.int .i64 r.Id, .int .i64 r.Source, .int .i64 r.Account, .int .i64 r.Made, .int .i64 r.About, .int .u8 (U8.i r.Kind), .int .i64 r.Cents, .int .i64 r.Of]]) (obs := []) (by kernel_rfl) (trivial) fun ac wd hS => ?_
            rw [show (.bool (validB r) : AV) = .bool false from by ((try simp only [decide_eq_true_eq, decide_eq_false_iff_not, beq_iff_eq, beq_eq_false_iff_ne] at hb1); (try simp only [decide_eq_true_eq, decide_eq_false_iff_not, beq_iff_eq, beq_eq_false_iff_ne] at hb2); (try simp only [decide_eq_true_eq, decide_eq_false_iff_not, beq_iff_eq, beq_eq_false_iff_ne] at hb3); (try simp only [decide_eq_true_eq, decide_eq_false_iff_not, beq_iff_eq, beq_eq_false_iff_ne] at hb4); (try simp only [decide_eq_true_eq, decide_eq_false_iff_not, beq_iff_eq, beq_eq_false_iff_ne] at hb5); first | (simp [validB, hb1, hb2, hb3, hb4, hb5]; done) | (simp [validB, hb1, hb2, hb3, hb4, hb5]; omega) | (congr 1; simp only [validB]; grind))]
            exact retz Tryz.func99 rfl hB hBd hS (by kernel_rfl) rfl
        · skip
          refine reg [(2, .av (.bool (within r.Id 0 999999))), (4, .dec false), (7, .av (.bool (within r.Source 0 999999))), (10, .dec false), (13, .av (.bool (within r.Account 0 999999))), (16, .dec false), (19, .av (.bool (within r.Made 0 100000))), (22, .dec true)] [1, 37] hG hS (env := [(1, .box 0 0), (37, .bool true)]) (own := [.box none 73 [.int .i64 r.Id, .int .i64 r.Source, .int .i64 r.Account, .int .i64 r.Made, .int .i64 r.About, .int .u8 (U8.i r.Kind), .int .i64 r.Cents, .int .i64 r.Of]]) (obs := [CallA Tryz.prog GT 84 [.int .i64 r.Id, .int .i64 0, .int .i64 999999] (.bool (within r.Id 0 999999)), (!within r.Id 0 999999) = false, CallA Tryz.prog GT 84 [.int .i64 r.Source, .int .i64 0, .int .i64 999999] (.bool (within r.Source 0 999999)), (!within r.Source 0 999999) = false, CallA Tryz.prog GT 84 [.int .i64 r.Account, .int .i64 0, .int .i64 999999] (.bool (within r.Account 0 999999)), (!within r.Account 0 999999) = false, CallA Tryz.prog GT 84 [.int .i64 r.Made, .int .i64 0, .int .i64 100000] (.bool (within r.Made 0 100000)), (!within r.Made 0 100000) = true]) (by kernel_rfl) (⟨(within_ok84 _ _ _), by rw [hb1]; rfl, (within_ok84 _ _ _), by rw [hb2]; rfl, (within_ok84 _ _ _), by rw [hb3]; rfl, (within_ok84 _ _ _), by rw [hb4]; rfl⟩) fun ac wd hS => ?_
          refine cond_yes hS (c := true) (by kernel_rfl) rfl ?_
          refine runs_seq ?_
          refine reg [] [2] hG hS (env := [(2, .bool false)]) (own := [.box none 73 [.int .i64 r.Id, .int .i64 r.Source, .int .i64 r.Account, .int .i64 r.Made, .int .i64 r.About, .int .u8 (U8.i r.Kind), .int .i64 r.Cents, .int .i64 r.Of]]) (obs := []) (by kernel_rfl) (trivial) fun ac wd hS => ?_
          rw [show (.bool (validB r) : AV) = .bool false from by ((try simp only [decide_eq_true_eq, decide_eq_false_iff_not, beq_iff_eq, beq_eq_false_iff_ne] at hb1); (try simp only [decide_eq_true_eq, decide_eq_false_iff_not, beq_iff_eq, beq_eq_false_iff_ne] at hb2); (try simp only [decide_eq_true_eq, decide_eq_false_iff_not, beq_iff_eq, beq_eq_false_iff_ne] at hb3); (try simp only [decide_eq_true_eq, decide_eq_false_iff_not, beq_iff_eq, beq_eq_false_iff_ne] at hb4); first | (simp [validB, hb1, hb2, hb3, hb4]; done) | (simp [validB, hb1, hb2, hb3, hb4]; omega) | (congr 1; simp only [validB]; grind))]
          exact retz Tryz.func99 rfl hB hBd hS (by kernel_rfl) rfl
      · skip
        refine reg [(2, .av (.bool (within r.Id 0 999999))), (4, .dec false), (7, .av (.bool (within r.Source 0 999999))), (10, .dec false), (13, .av (.bool (within r.Account 0 999999))), (16, .dec true)] [1, 37] hG hS (env := [(1, .box 0 0), (37, .bool true)]) (own := [.box none 73 [.int .i64 r.Id, .int .i64 r.Source, .int .i64 r.Account, .int .i64 r.Made, .int .i64 r.About, .int .u8 (U8.i r.Kind), .int .i64 r.Cents, .int .i64 r.Of]]) (obs := [CallA Tryz.prog GT 84 [.int .i64 r.Id, .int .i64 0, .int .i64 999999] (.bool (within r.Id 0 999999)), (!within r.Id 0 999999) = false, CallA Tryz.prog GT 84 [.int .i64 r.Source, .int .i64 0, .int .i64 999999] (.bool (within r.Source 0 999999)), (!within r.Source 0 999999) = false, CallA Tryz.prog GT 84 [.int .i64 r.Account, .int .i64 0, .int .i64 999999] (.bool (within r.Account 0 999999)), (!within r.Account 0 999999) = true]) (by kernel_rfl) (⟨(within_ok84 _ _ _), by rw [hb1]; rfl, (within_ok84 _ _ _), by rw [hb2]; rfl, (within_ok84 _ _ _), by rw [hb3]; rfl⟩) fun ac wd hS => ?_
        refine cond_yes hS (c := true) (by kernel_rfl) rfl ?_
        refine runs_seq ?_
        refine reg [] [2] hG hS (env := [(2, .bool false)]) (own := [.box none 73 [.int .i64 r.Id, .int .i64 r.Source, .int .i64 r.Account, .int .i64 r.Made, .int .i64 r.About, .int .u8 (U8.i r.Kind), .int .i64 r.Cents, .int .i64 r.Of]]) (obs := []) (by kernel_rfl) (trivial) fun ac wd hS => ?_
        rw [show (.bool (validB r) : AV) = .bool false from by ((try simp only [decide_eq_true_eq, decide_eq_false_iff_not, beq_iff_eq, beq_eq_false_iff_ne] at hb1); (try simp only [decide_eq_true_eq, decide_eq_false_iff_not, beq_iff_eq, beq_eq_false_iff_ne] at hb2); (try simp only [decide_eq_true_eq, decide_eq_false_iff_not, beq_iff_eq, beq_eq_false_iff_ne] at hb3); first | (simp [validB, hb1, hb2, hb3]; done) | (simp [validB, hb1, hb2, hb3]; omega) | (congr 1; simp only [validB]; grind))]
        exact retz Tryz.func99 rfl hB hBd hS (by kernel_rfl) rfl
    · skip
      refine reg [(2, .av (.bool (within r.Id 0 999999))), (4, .dec false), (7, .av (.bool (within r.Source 0 999999))), (10, .dec true)] [1, 37] hG hS (env := [(1, .box 0 0), (37, .bool true)]) (own := [.box none 73 [.int .i64 r.Id, .int .i64 r.Source, .int .i64 r.Account, .int .i64 r.Made, .int .i64 r.About, .int .u8 (U8.i r.Kind), .int .i64 r.Cents, .int .i64 r.Of]]) (obs := [CallA Tryz.prog GT 84 [.int .i64 r.Id, .int .i64 0, .int .i64 999999] (.bool (within r.Id 0 999999)), (!within r.Id 0 999999) = false, CallA Tryz.prog GT 84 [.int .i64 r.Source, .int .i64 0, .int .i64 999999] (.bool (within r.Source 0 999999)), (!within r.Source 0 999999) = true]) (by kernel_rfl) (⟨(within_ok84 _ _ _), by rw [hb1]; rfl, (within_ok84 _ _ _), by rw [hb2]; rfl⟩) fun ac wd hS => ?_
      refine cond_yes hS (c := true) (by kernel_rfl) rfl ?_
      refine runs_seq ?_
      refine reg [] [2] hG hS (env := [(2, .bool false)]) (own := [.box none 73 [.int .i64 r.Id, .int .i64 r.Source, .int .i64 r.Account, .int .i64 r.Made, .int .i64 r.About, .int .u8 (U8.i r.Kind), .int .i64 r.Cents, .int .i64 r.Of]]) (obs := []) (by kernel_rfl) (trivial) fun ac wd hS => ?_
      rw [show (.bool (validB r) : AV) = .bool false from by ((try simp only [decide_eq_true_eq, decide_eq_false_iff_not, beq_iff_eq, beq_eq_false_iff_ne] at hb1); (try simp only [decide_eq_true_eq, decide_eq_false_iff_not, beq_iff_eq, beq_eq_false_iff_ne] at hb2); first | (simp [validB, hb1, hb2]; done) | (simp [validB, hb1, hb2]; omega) | (congr 1; simp only [validB]; grind))]
      exact retz Tryz.func99 rfl hB hBd hS (by kernel_rfl) rfl
  · skip
    refine reg [(2, .av (.bool (within r.Id 0 999999))), (4, .dec true)] [1, 37] hG hS (env := [(1, .box 0 0), (37, .bool true)]) (own := [.box none 73 [.int .i64 r.Id, .int .i64 r.Source, .int .i64 r.Account, .int .i64 r.Made, .int .i64 r.About, .int .u8 (U8.i r.Kind), .int .i64 r.Cents, .int .i64 r.Of]]) (obs := [CallA Tryz.prog GT 84 [.int .i64 r.Id, .int .i64 0, .int .i64 999999] (.bool (within r.Id 0 999999)), (!within r.Id 0 999999) = true]) (by kernel_rfl) (⟨(within_ok84 _ _ _), by rw [hb1]; rfl⟩) fun ac wd hS => ?_
    refine cond_yes hS (c := true) (by kernel_rfl) rfl ?_
    refine runs_seq ?_
    refine reg [] [2] hG hS (env := [(2, .bool false)]) (own := [.box none 73 [.int .i64 r.Id, .int .i64 r.Source, .int .i64 r.Account, .int .i64 r.Made, .int .i64 r.About, .int .u8 (U8.i r.Kind), .int .i64 r.Cents, .int .i64 r.Of]]) (obs := []) (by kernel_rfl) (trivial) fun ac wd hS => ?_
    rw [show (.bool (validB r) : AV) = .bool false from by ((try simp only [decide_eq_true_eq, decide_eq_false_iff_not, beq_iff_eq, beq_eq_false_iff_ne] at hb1); first | (simp [validB, hb1]; done) | (simp [validB, hb1]; omega) | (congr 1; simp only [validB]; grind))]
    exact retz Tryz.func99 rfl hB hBd hS (by kernel_rfl) rfl
theorem at_ok (l : List Report) (id : Int) (hn : l.length ≤ 65536) : CallA Tryz.prog GT 48 [.sl (l.map Report.av), .int .i64 id] (.int .i64 (atI l id)) := by
  refine callA_of Tryz.func48 rfl (by simp [Tryz.f48]) rfl fun B ac hB hBd hG hS => ?_
  refine runs_seq ?_
  refine reg [] [0, 1] hG hS (env := [(0, .sl (l.map Report.av)), (1, .int .i64 id)]) (own := []) (obs := []) (by kernel_rfl) (trivial) fun ac wd hS => ?_
  refine runs_seq ?_
  refine runs_seq ?_
  refine reg [] [0, 1, 5] hG hS (env := [(0, .sl (l.map Report.av)), (1, .int .i64 id), (5, .int .i64 0)]) (own := []) (obs := []) (by kernel_rfl) (trivial) fun ac wd hS => ?_
  refine runs_block ?_
  refine runs_loop ?_
  have hinv : ∃ (pre rest : List Report), l = pre ++ rest ∧ (atI l id = findI (fun x : Report => x.Id == id) rest ((pre.length : Nat) : Int)) ∧ Sat B ⟨Tryz.f48.ntmps, [(0, .sl (l.map Report.av)), (1, .int .i64 id), (5, .int .i64 ((pre.length : Nat) : Int))], []⟩ ac wd := ⟨[], l, rfl, rfl, hS.sel [] [0, 1, 5] (by kernel_rfl)⟩
  clear hS
  obtain ⟨pre, rest, hl, hr, hS⟩ := hinv
  induction rest generalizing pre  ac wd with
  | nil =>
    refine runs_seq ?_
    refine runs_seq ?_
    refine reg [(2, .is ((l.length : Nat) : Int)), (3, .dec false)] [0, 1, 5, 9] hG hS (env := [(0, .sl (l.map Report.av)), (1, .int .i64 id), (5, .int .i64 ((pre.length : Nat) : Int)), (9, .bool false)]) (own := []) (obs := [((l.map Report.av).length : Int) = ((l.length : Nat) : Int), decide (((pre.length : Nat) : Int) < ((l.length : Nat) : Int)) = false]) (by kernel_rfl) (⟨len_map, (lt_no hl)⟩) fun ac wd hS => ?_
    refine cond_no hS (c := false) (by kernel_rfl) rfl ?_
    refine runs_exit (by rfl) ?_
    refine runs_seq ?_
    refine reg [] [4] hG hS (env := [(4, .int .i64 (-1))]) (own := []) (obs := []) (by kernel_rfl) (trivial) fun ac wd hS => ?_
    rw [hr]; rw [show (AV.int .i64 (findI (fun x : Report => x.Id == id) [] ((pre.length : Nat) : Int))) = .int .i64 (-1) from by simp only [findI]]
    exact retz Tryz.func48 rfl hB hBd hS (by kernel_rfl) rfl
  | cons x rest ihx =>
    refine runs_seq ?_
    refine runs_seq ?_
    refine reg [(2, .is ((l.length : Nat) : Int)), (3, .dec true)] [0, 1, 5, 9] hG hS (env := [(0, .sl (l.map Report.av)), (1, .int .i64 id), (5, .int .i64 ((pre.length : Nat) : Int)), (9, .bool true)]) (own := []) (obs := [((l.map Report.av).length : Int) = ((l.length : Nat) : Int), decide (((pre.length : Nat) : Int) < ((l.length : Nat) : Int)) = true]) (by kernel_rfl) (⟨len_map, (lt_yes hl)⟩) fun ac wd hS => ?_
    refine cond_yes hS (c := true) (by kernel_rfl) rfl ?_
    refine runs_skip ?_
    refine runs_seq ?_
    refine runs_block ?_
    refine runs_seq ?_
    rcases Bool.eq_false_or_eq_true ((x.Id == id)) with hb1 | hb1
    · skip
      refine reg [(2, .av (Report.av x)), (6, .dec true)] [0, 1, 5, 18] hG hS (env := [(0, .sl (l.map Report.av)), (1, .int .i64 id), (5, .int .i64 ((pre.length : Nat) : Int)), (18, .bool true)]) (own := []) (obs := [0 ≤ (((pre.length : Nat) : Int) : Int) ∧ (l.map Report.av : List AV)[(((pre.length : Nat) : Int) : Int).toNat]? = some (Report.av x), (x.Id == id) = true]) (by kernel_rfl) (⟨(idx_ok hl), hb1⟩) fun ac wd hS => ?_
      refine cond_yes hS (c := true) (by kernel_rfl) rfl ?_
      refine runs_seq ?_
      refine reg [] [4] hG hS (env := [(4, .int .i64 ((pre.length : Nat) : Int))]) (own := []) (obs := []) (by kernel_rfl) (trivial) fun ac wd hS => ?_
      rw [hr]; rw [show (AV.int .i64 (findI (fun x : Report => x.Id == id) (x :: rest) ((pre.length : Nat) : Int))) = .int .i64 ((pre.length : Nat) : Int) from by simp only [findI, hb1, if_true]]
      exact retz Tryz.func48 rfl hB hBd hS (by kernel_rfl) rfl
    · skip
      refine reg [(2, .av (Report.av x)), (6, .dec false)] [0, 1, 5, 18] hG hS (env := [(0, .sl (l.map Report.av)), (1, .int .i64 id), (5, .int .i64 ((pre.length : Nat) : Int)), (18, .bool false)]) (own := []) (obs := [0 ≤ (((pre.length : Nat) : Int) : Int) ∧ (l.map Report.av : List AV)[(((pre.length : Nat) : Int) : Int).toNat]? = some (Report.av x), (x.Id == id) = false]) (by kernel_rfl) (⟨(idx_ok hl), hb1⟩) fun ac wd hS => ?_
      refine cond_no hS (c := false) (by kernel_rfl) rfl ?_
      refine runs_skip ?_
      refine runs_inBlock ?_
      refine reg [(1, .is (((pre ++ [x]).length : Nat) : Int))] [0, 1, 5] hG hS (env := [(0, .sl (l.map Report.av)), (1, .int .i64 id), (5, .int .i64 (((pre ++ [x]).length : Nat) : Int))]) (own := []) (obs := [IntKind.i64.wrap (((pre.length : Nat) : Int) + 1) = (((pre ++ [x]).length : Nat) : Int)]) (by kernel_rfl) ((next_len hl hn)) fun ac wd hS => ?_
      refine runs_inLoop ?_
      exact ihx _ _ (pre ++ [x])  (next_eq hl) (by rw [hr]; simp only [findI, hb1, Bool.false_eq_true, if_false, List.length_append, List.length_singleton]; rfl) (hS.sel [] [0, 1, 5] (by kernel_rfl))
def sameI (x y : Report) : Bool := decide (([x.Id, x.Source, x.Account, x.Made, x.About, U8.i x.Kind, x.Cents, x.Of] : List Int) = [y.Id, y.Source, y.Account, y.Made, y.About, U8.i y.Kind, y.Cents, y.Of])
def pairB (x y : Report) : Bool := !((x.Id == y.Id) && !sameI x y)
def pairsB : List Report → List Report → Bool
  | _, [] => true
  | pre, x :: rest => pre.all (fun y => pairB x y) && pairsB (pre ++ [x]) rest
def checkR (l : List Report) : Int := if ((l.length : Nat) : Int) > 60 then 4 else if l.all validB then (if pairsB [] l then 0 else 31) else 30
theorem nest_idx {α : Type} {l pre rest p3 r3 : List α} {x y : α} (h : l = pre ++ x :: rest) (h3 : pre = p3 ++ y :: r3) : l = p3 ++ y :: (r3 ++ x :: rest) := by subst h3; rw [h]; simp
theorem pre_len {α : Type} {l pre rest : List α} (h : l = pre ++ rest) (hn : l.length ≤ 65536) : pre.length ≤ 65536 := by subst h; simp at hn; omega
theorem checkR_ok (l : List Report) (hn : l.length ≤ 65536) : CallA Tryz.prog GT 75 [.sl (l.map Report.av)] (.int .i64 (checkR l)) := by
  refine callA_of Tryz.func75 rfl (by simp [Tryz.f75]) rfl fun B ac hB hBd hG hS => ?_
  refine runs_seq ?_
  refine reg [] [0] hG hS (env := [(0, .sl (l.map Report.av))]) (own := []) (obs := []) (by kernel_rfl) (trivial) fun ac wd hS => ?_
  refine runs_seq ?_
  refine runs_seq ?_
  rcases Bool.eq_false_or_eq_true (decide (((l.length : Nat) : Int) > 60)) with hb1 | hb1
  · skip
    refine reg [(1, .is ((l.length : Nat) : Int)), (2, .dec true)] [0, 8] hG hS (env := [(0, .sl (l.map Report.av)), (8, .bool true)]) (own := []) (obs := [((l.map Report.av).length : Int) = ((l.length : Nat) : Int), decide (((l.length : Nat) : Int) > 60) = true]) (by kernel_rfl) (⟨len_map, hb1⟩) fun ac wd hS => ?_
    refine cond_yes hS (c := true) (by kernel_rfl) rfl ?_
    refine runs_seq ?_
    refine reg [] [2] hG hS (env := [(2, .int .i64 4)]) (own := []) (obs := []) (by kernel_rfl) (trivial) fun ac wd hS => ?_
    rw [show (.int .i64 (checkR l) : AV) = .int .i64 4 from by (try simp only [decide_eq_true_eq, decide_eq_false_iff_not] at hb1); simp only [checkR, hb1, if_true]]
    exact retz Tryz.func75 rfl hB hBd hS (by kernel_rfl) rfl
  · skip
    refine reg [(1, .is ((l.length : Nat) : Int)), (2, .dec false)] [0, 8] hG hS (env := [(0, .sl (l.map Report.av)), (8, .bool false)]) (own := []) (obs := [((l.map Report.av).length : Int) = ((l.length : Nat) : Int), decide (((l.length : Nat) : Int) > 60) = false]) (by kernel_rfl) (⟨len_map, hb1⟩) fun ac wd hS => ?_
    refine cond_no hS (c := false) (by kernel_rfl) rfl ?_
    refine runs_skip ?_
    refine runs_seq ?_
    refine runs_seq ?_
    refine reg [] [0, 3] hG hS (env := [(0, .sl (l.map Report.av)), (3, .int .i64 0)]) (own := []) (obs := []) (by kernel_rfl) (trivial) fun ac wd hS => ?_
    refine runs_block ?_
    refine runs_loop ?_
    have hinv : ∃ (pre rest : List Report), l = pre ++ rest ∧ (l.all validB = rest.all validB) ∧ Sat B ⟨Tryz.f75.ntmps, [(0, .sl (l.map Report.av)), (3, .int .i64 ((pre.length : Nat) : Int))], []⟩ ac wd := ⟨[], l, rfl, rfl, hS.sel [] [0, 3] (by kernel_rfl)⟩
    clear hS
    obtain ⟨pre, rest, hl, hr, hS⟩ := hinv
    induction rest generalizing pre  ac wd with
    | nil =>
      refine runs_seq ?_
      refine runs_seq ?_
      refine reg [(2, .is ((l.length : Nat) : Int)), (3, .dec false)] [0, 3, 12] hG hS (env := [(0, .sl (l.map Report.av)), (3, .int .i64 ((pre.length : Nat) : Int)), (12, .bool false)]) (own := []) (obs := [((l.map Report.av).length : Int) = ((l.length : Nat) : Int), decide (((pre.length : Nat) : Int) < ((l.length : Nat) : Int)) = false]) (by kernel_rfl) (⟨len_map, (lt_no hl)⟩) fun ac wd hS => ?_
      refine cond_no hS (c := false) (by kernel_rfl) rfl ?_
      refine runs_exit (by rfl) ?_
      refine runs_seq ?_
      refine runs_seq ?_
      refine reg [] [0, 4] hG hS (env := [(0, .sl (l.map Report.av)), (4, .int .i64 0)]) (own := []) (obs := []) (by kernel_rfl) (trivial) fun ac wd hS => ?_
      refine runs_block ?_
      refine runs_loop ?_
      have hinv : ∃ (pre2 rest2 : List Report), l = pre2 ++ rest2 ∧ (pairsB [] l = pairsB pre2 rest2) ∧ Sat B ⟨Tryz.f75.ntmps, [(0, .sl (l.map Report.av)), (4, .int .i64 ((pre2.length : Nat) : Int))], []⟩ ac wd := ⟨[], l, rfl, rfl, hS.sel [] [0, 4] (by kernel_rfl)⟩
      clear hS
      obtain ⟨pre2, rest2, hl2, hr2, hS⟩ := hinv
      induction rest2 generalizing pre2  ac wd with
      | nil =>
        refine runs_seq ?_
        refine runs_seq ?_
        refine reg [(2, .is ((l.length : Nat) : Int)), (3, .dec false)] [0, 4, 24] hG hS (env := [(0, .sl (l.map Report.av)), (4, .int .i64 ((pre2.length : Nat) : Int)), (24, .bool false)]) (own := []) (obs := [((l.map Report.av).length : Int) = ((l.length : Nat) : Int), decide (((pre2.length : Nat) : Int) < ((l.length : Nat) : Int)) = false]) (by kernel_rfl) (⟨len_map, (lt_no hl2)⟩) fun ac wd hS => ?_
        refine cond_no hS (c := false) (by kernel_rfl) rfl ?_
        refine runs_exit (by rfl) ?_
        refine runs_seq ?_
        refine reg [] [2] hG hS (env := [(2, .int .i64 0)]) (own := []) (obs := []) (by kernel_rfl) (trivial) fun ac wd hS => ?_
        rw [show (.int .i64 (checkR l) : AV) = .int .i64 0 from by (try simp only [decide_eq_true_eq, decide_eq_false_iff_not] at hb1); simp only [checkR, hb1, if_false, hr, List.all_nil, if_true, hr2, pairsB]]
        exact retz Tryz.func75 rfl hB hBd hS (by kernel_rfl) rfl
      | cons x2 rest2 ihx2 =>
        refine runs_seq ?_
        refine runs_seq ?_
        refine reg [(2, .is ((l.length : Nat) : Int)), (3, .dec true)] [0, 4, 24] hG hS (env := [(0, .sl (l.map Report.av)), (4, .int .i64 ((pre2.length : Nat) : Int)), (24, .bool true)]) (own := []) (obs := [((l.map Report.av).length : Int) = ((l.length : Nat) : Int), decide (((pre2.length : Nat) : Int) < ((l.length : Nat) : Int)) = true]) (by kernel_rfl) (⟨len_map, (lt_yes hl2)⟩) fun ac wd hS => ?_
        refine cond_yes hS (c := true) (by kernel_rfl) rfl ?_
        refine runs_skip ?_
        refine runs_seq ?_
        refine runs_block ?_
        refine runs_seq ?_
        refine reg [] [0, 4, 5] hG hS (env := [(0, .sl (l.map Report.av)), (4, .int .i64 ((pre2.length : Nat) : Int)), (5, .int .i64 0)]) (own := []) (obs := []) (by kernel_rfl) (trivial) fun ac wd hS => ?_
        refine runs_block ?_
        refine runs_loop ?_
        have hinv : ∃ (pre3 rest3 : List Report), pre2 = pre3 ++ rest3 ∧ (pre2.all (fun y => pairB x2 y) = rest3.all (fun y => pairB x2 y)) ∧ Sat B ⟨Tryz.f75.ntmps, [(0, .sl (l.map Report.av)), (4, .int .i64 ((pre2.length : Nat) : Int)), (5, .int .i64 ((pre3.length : Nat) : Int))], []⟩ ac wd := ⟨[], pre2, rfl, rfl, hS.sel [] [0, 4, 5] (by kernel_rfl)⟩
        clear hS
        obtain ⟨pre3, rest3, hl3, hr3, hS⟩ := hinv
        induction rest3 generalizing pre3  ac wd with
        | nil =>
          refine runs_seq ?_
          refine runs_seq ?_
          refine reg [(2, .dec false)] [0, 4, 5, 29] hG hS (env := [(0, .sl (l.map Report.av)), (4, .int .i64 ((pre2.length : Nat) : Int)), (5, .int .i64 ((pre3.length : Nat) : Int)), (29, .bool false)]) (own := []) (obs := [decide (((pre3.length : Nat) : Int) < ((pre2.length : Nat) : Int)) = false]) (by kernel_rfl) ((lt_no hl3)) fun ac wd hS => ?_
          refine cond_no hS (c := false) (by kernel_rfl) rfl ?_
          refine runs_exit (by rfl) ?_
          refine runs_inBlock ?_
          refine reg [(1, .is (((pre2 ++ [x2]).length : Nat) : Int))] [0, 4] hG hS (env := [(0, .sl (l.map Report.av)), (4, .int .i64 (((pre2 ++ [x2]).length : Nat) : Int))]) (own := []) (obs := [IntKind.i64.wrap (((pre2.length : Nat) : Int) + 1) = (((pre2 ++ [x2]).length : Nat) : Int)]) (by kernel_rfl) ((next_len hl2 hn)) fun ac wd hS => ?_
          refine runs_inLoop ?_
          exact ihx2 _ _ (pre2 ++ [x2])  (next_eq hl2) (by rw [hr2]; simp only [pairsB, hr3, List.all_nil, Bool.true_and]) (hS.sel [] [0, 4] (by kernel_rfl))
        | cons x3 rest3 ihx3 =>
          refine runs_seq ?_
          refine runs_seq ?_
          refine reg [(2, .dec true)] [0, 4, 5, 29] hG hS (env := [(0, .sl (l.map Report.av)), (4, .int .i64 ((pre2.length : Nat) : Int)), (5, .int .i64 ((pre3.length : Nat) : Int)), (29, .bool true)]) (own := []) (obs := [decide (((pre3.length : Nat) : Int) < ((pre2.length : Nat) : Int)) = true]) (by kernel_rfl) ((lt_yes hl3)) fun ac wd hS => ?_
          refine cond_yes hS (c := true) (by kernel_rfl) rfl ?_
          refine runs_skip ?_
          refine runs_seq ?_
          refine runs_block ?_
          refine runs_seq ?_
          rcases Bool.eq_false_or_eq_true ((x2.Id == x3.Id)) with hb2 | hb2
          · skip
            rcases Bool.eq_false_or_eq_true (decide (([x2.Id, x2.Source, x2.Account, x2.Made, x2.About, U8.i x2.Kind, x2.Cents, x2.Of] : List Int) = [x3.Id, x3.Source, x3.Account, x3.Made, x3.About, U8.i x3.Kind, x3.Cents, x3.Of])) with hb3 | hb3
            · skip
              refine drw [(2, .av (Report.av x2)), (7, .av (Report.av x3)), (11, .dec true), (14, .av (Report.av x2)), (18, .av (Report.av x3)), (21, .dec false)] [0, 4, 5, 53] hG hS (env := [(0, .sl (l.map Report.av)), (4, .int .i64 ((pre2.length : Nat) : Int)), (5, .int .i64 ((pre3.length : Nat) : Int)), (53, .bool false)]) (own := []) (obs := [0 ≤ (((pre2.length : Nat) : Int) : Int) ∧ (l.map Report.av : List AV)[(((pre2.length : Nat) : Int) : Int).toNat]? = some (Report.av x2), 0 ≤ (((pre3.length : Nat) : Int) : Int) ∧ (l.map Report.av : List AV)[(((pre3.length : Nat) : Int) : Int).toNat]? = some (Report.av x3), (x2.Id == x3.Id) = true, 0 ≤ (((pre2.length : Nat) : Int) : Int) ∧ (l.map Report.av : List AV)[(((pre2.length : Nat) : Int) : Int).toNat]? = some (Report.av x2), 0 ≤ (((pre3.length : Nat) : Int) : Int) ∧ (l.map Report.av : List AV)[(((pre3.length : Nat) : Int) : Int).toNat]? = some (Report.av x3), (!decide (([x2.Id, x2.Source, x2.Account, x2.Made, x2.About, U8.i x2.Kind, x2.Cents, x2.Of] : List Int) = [x3.Id, x3.Source, x3.Account, x3.Made, x3.About, U8.i x3.Kind, x3.Cents, x3.Of])) = false]) (by kernel_rfl) (by kernel_rfl) (⟨(idx_ok hl2), (idx_ok (nest_idx hl2 hl3)), hb2, (idx_ok hl2), (idx_ok (nest_idx hl2 hl3)), by rw [hb3]; rfl⟩) fun ac wd hS => ?_
              refine cond_no hS (c := false) (by kernel_rfl) rfl ?_
              refine runs_skip ?_
              refine runs_inBlock ?_
              refine reg [(1, .is (((pre3 ++ [x3]).length : Nat) : Int))] [0, 4, 5] hG hS (env := [(0, .sl (l.map Report.av)), (4, .int .i64 ((pre2.length : Nat) : Int)), (5, .int .i64 (((pre3 ++ [x3]).length : Nat) : Int))]) (own := []) (obs := [IntKind.i64.wrap (((pre3.length : Nat) : Int) + 1) = (((pre3 ++ [x3]).length : Nat) : Int)]) (by kernel_rfl) ((next_len hl3 (pre_len hl2 hn))) fun ac wd hS => ?_
              refine runs_inLoop ?_
              exact ihx3 _ _ (pre3 ++ [x3])  (next_eq hl3) (by rw [hr3]; simp only [List.all_cons, pairB, sameI, hb1, hb2, hb3, Bool.and_true, Bool.true_and, Bool.and_false, Bool.false_and, Bool.or_true, Bool.true_or, Bool.or_false, Bool.false_or, Bool.not_true, Bool.not_false, Bool.true_and]) (hS.sel [] [0, 4, 5] (by kernel_rfl))
            · skip
              refine drw [(2, .av (Report.av x2)), (7, .av (Report.av x3)), (11, .dec true), (14, .av (Report.av x2)), (18, .av (Report.av x3)), (21, .dec true)] [0, 4, 5, 53] hG hS (env := [(0, .sl (l.map Report.av)), (4, .int .i64 ((pre2.length : Nat) : Int)), (5, .int .i64 ((pre3.length : Nat) : Int)), (53, .bool true)]) (own := []) (obs := [0 ≤ (((pre2.length : Nat) : Int) : Int) ∧ (l.map Report.av : List AV)[(((pre2.length : Nat) : Int) : Int).toNat]? = some (Report.av x2), 0 ≤ (((pre3.length : Nat) : Int) : Int) ∧ (l.map Report.av : List AV)[(((pre3.length : Nat) : Int) : Int).toNat]? = some (Report.av x3), (x2.Id == x3.Id) = true, 0 ≤ (((pre2.length : Nat) : Int) : Int) ∧ (l.map Report.av : List AV)[(((pre2.length : Nat) : Int) : Int).toNat]? = some (Report.av x2), 0 ≤ (((pre3.length : Nat) : Int) : Int) ∧ (l.map Report.av : List AV)[(((pre3.length : Nat) : Int) : Int).toNat]? = some (Report.av x3), (!decide (([x2.Id, x2.Source, x2.Account, x2.Made, x2.About, U8.i x2.Kind, x2.Cents, x2.Of] : List Int) = [x3.Id, x3.Source, x3.Account, x3.Made, x3.About, U8.i x3.Kind, x3.Cents, x3.Of])) = true]) (by kernel_rfl) (by kernel_rfl) (⟨(idx_ok hl2), (idx_ok (nest_idx hl2 hl3)), hb2, (idx_ok hl2), (idx_ok (nest_idx hl2 hl3)), by rw [hb3]; rfl⟩) fun ac wd hS => ?_
              refine cond_yes hS (c := true) (by kernel_rfl) rfl ?_
              refine runs_seq ?_
              refine reg [] [2] hG hS (env := [(2, .int .i64 31)]) (own := []) (obs := []) (by kernel_rfl) (trivial) fun ac wd hS => ?_
              have e0 : (pre2.all fun y => pairB x2 y) = false := by rw [hr3]; simp only [List.all_cons, pairB, sameI, hb2, hb3, Bool.and_true, Bool.true_and, Bool.and_false, Bool.false_and, Bool.or_true, Bool.true_or, Bool.or_false, Bool.false_or, Bool.not_true, Bool.not_false]
              rw [show (.int .i64 (checkR l) : AV) = .int .i64 31 from by (try simp only [decide_eq_true_eq, decide_eq_false_iff_not] at hb1); simp only [checkR, hb1, if_false, hr, List.all_nil, if_true, hr2, pairsB, e0, Bool.false_and, Bool.false_eq_true]]
              exact retz Tryz.func75 rfl hB hBd hS (by kernel_rfl) rfl
          · skip
            refine drw [(2, .av (Report.av x2)), (7, .av (Report.av x3)), (11, .dec false)] [0, 4, 5, 53] hG hS (env := [(0, .sl (l.map Report.av)), (4, .int .i64 ((pre2.length : Nat) : Int)), (5, .int .i64 ((pre3.length : Nat) : Int)), (53, .bool false)]) (own := []) (obs := [0 ≤ (((pre2.length : Nat) : Int) : Int) ∧ (l.map Report.av : List AV)[(((pre2.length : Nat) : Int) : Int).toNat]? = some (Report.av x2), 0 ≤ (((pre3.length : Nat) : Int) : Int) ∧ (l.map Report.av : List AV)[(((pre3.length : Nat) : Int) : Int).toNat]? = some (Report.av x3), (x2.Id == x3.Id) = false]) (by kernel_rfl) (by kernel_rfl) (⟨(idx_ok hl2), (idx_ok (nest_idx hl2 hl3)), hb2⟩) fun ac wd hS => ?_
            refine cond_no hS (c := false) (by kernel_rfl) rfl ?_
            refine runs_skip ?_
            refine runs_inBlock ?_
            refine reg [(1, .is (((pre3 ++ [x3]).length : Nat) : Int))] [0, 4, 5] hG hS (env := [(0, .sl (l.map Report.av)), (4, .int .i64 ((pre2.length : Nat) : Int)), (5, .int .i64 (((pre3 ++ [x3]).length : Nat) : Int))]) (own := []) (obs := [IntKind.i64.wrap (((pre3.length : Nat) : Int) + 1) = (((pre3 ++ [x3]).length : Nat) : Int)]) (by kernel_rfl) ((next_len hl3 (pre_len hl2 hn))) fun ac wd hS => ?_
            refine runs_inLoop ?_
            exact ihx3 _ _ (pre3 ++ [x3])  (next_eq hl3) (by rw [hr3]; simp only [List.all_cons, pairB, sameI, hb1, hb2, Bool.and_true, Bool.true_and, Bool.and_false, Bool.false_and, Bool.or_true, Bool.true_or, Bool.or_false, Bool.false_or, Bool.not_true, Bool.not_false, Bool.true_and]) (hS.sel [] [0, 4, 5] (by kernel_rfl))
    | cons x rest ihx =>
      refine runs_seq ?_
      refine runs_seq ?_
      refine reg [(2, .is ((l.length : Nat) : Int)), (3, .dec true)] [0, 3, 12] hG hS (env := [(0, .sl (l.map Report.av)), (3, .int .i64 ((pre.length : Nat) : Int)), (12, .bool true)]) (own := []) (obs := [((l.map Report.av).length : Int) = ((l.length : Nat) : Int), decide (((pre.length : Nat) : Int) < ((l.length : Nat) : Int)) = true]) (by kernel_rfl) (⟨len_map, (lt_yes hl)⟩) fun ac wd hS => ?_
      refine cond_yes hS (c := true) (by kernel_rfl) rfl ?_
      refine runs_skip ?_
      refine runs_seq ?_
      refine runs_block ?_
      refine runs_seq ?_
      rcases Bool.eq_false_or_eq_true (validB x) with hb4 | hb4
      · skip
        refine reg [(2, .av (Report.av x)), (4, .av (.bool (validB x))), (5, .dec false)] [0, 3, 20] hG hS (env := [(0, .sl (l.map Report.av)), (3, .int .i64 ((pre.length : Nat) : Int)), (20, .bool false)]) (own := []) (obs := [0 ≤ (((pre.length : Nat) : Int) : Int) ∧ (l.map Report.av : List AV)[(((pre.length : Nat) : Int) : Int).toNat]? = some (Report.av x), CallA Tryz.prog GT 99 [Report.av x] (.bool (validB x)), (!validB x) = false]) (by kernel_rfl) (⟨(idx_ok hl), (valid_ok _), by rw [hb4]; rfl⟩) fun ac wd hS => ?_
        refine cond_no hS (c := false) (by kernel_rfl) rfl ?_
        refine runs_skip ?_
        refine runs_inBlock ?_
        refine reg [(1, .is (((pre ++ [x]).length : Nat) : Int))] [0, 3] hG hS (env := [(0, .sl (l.map Report.av)), (3, .int .i64 (((pre ++ [x]).length : Nat) : Int))]) (own := []) (obs := [IntKind.i64.wrap (((pre.length : Nat) : Int) + 1) = (((pre ++ [x]).length : Nat) : Int)]) (by kernel_rfl) ((next_len hl hn)) fun ac wd hS => ?_
        refine runs_inLoop ?_
        exact ihx _ _ (pre ++ [x])  (next_eq hl) (by rw [hr]; simp only [List.all_cons, hb4, Bool.true_and]) (hS.sel [] [0, 3] (by kernel_rfl))
      · skip
        refine reg [(2, .av (Report.av x)), (4, .av (.bool (validB x))), (5, .dec true)] [0, 3, 20] hG hS (env := [(0, .sl (l.map Report.av)), (3, .int .i64 ((pre.length : Nat) : Int)), (20, .bool true)]) (own := []) (obs := [0 ≤ (((pre.length : Nat) : Int) : Int) ∧ (l.map Report.av : List AV)[(((pre.length : Nat) : Int) : Int).toNat]? = some (Report.av x), CallA Tryz.prog GT 99 [Report.av x] (.bool (validB x)), (!validB x) = true]) (by kernel_rfl) (⟨(idx_ok hl), (valid_ok _), by rw [hb4]; rfl⟩) fun ac wd hS => ?_
        refine cond_yes hS (c := true) (by kernel_rfl) rfl ?_
        refine runs_seq ?_
        refine reg [] [2] hG hS (env := [(2, .int .i64 30)]) (own := []) (obs := []) (by kernel_rfl) (trivial) fun ac wd hS => ?_
        rw [show (.int .i64 (checkR l) : AV) = .int .i64 30 from by (try simp only [decide_eq_true_eq, decide_eq_false_iff_not] at hb1); simp only [checkR, hb1, if_false, hr, List.all_cons, hb4, Bool.false_and, Bool.false_eq_true]]
        exact retz Tryz.func75 rfl hB hBd hS (by kernel_rfl) rfl
def getR (l : List Report) (id : Int) : Option Report := l.find? fun x => x.Id == id
theorem findI_cases {α : Type} (p : α → Bool) : ∀ (l : List α) (i : Int), 0 ≤ i → (findI p l i = -1 ∧ l.find? p = none) ∨ ∃ q k, findI p l i = i + ((k : Nat) : Int) ∧ l[k]? = some q ∧ l.find? p = some q
  | [], i, _ => .inl ⟨rfl, rfl⟩
  | x :: l, i, h => by
    unfold findI
    cases hx : p x
    · rcases findI_cases p l (i + 1) (by omega) with ⟨h1, h2⟩ | ⟨q, k, h1, h2, h3⟩
      · exact .inl ⟨by simpa using h1, by simp [List.find?, hx, h2]⟩
      · exact .inr ⟨q, k + 1, by simp [h1]; omega, by simpa using h2, by simp [List.find?, hx, h3]⟩
    · exact .inr ⟨x, 0, by simp, by simp, by simp [List.find?, hx]⟩
theorem at_cases (l : List Report) (id : Int) : (atI l id = -1 ∧ getR l id = none) ∨ ∃ q, 0 ≤ atI l id ∧ l[(atI l id).toNat]? = some q ∧ getR l id = some q := by
  rcases findI_cases (fun x : Report => x.Id == id) l 0 (by omega) with ⟨h1, h2⟩ | ⟨q, k, h1, h2, h3⟩
  · exact .inl ⟨h1, h2⟩
  · refine .inr ⟨q, ?_, ?_, h3⟩
    · unfold atI; rw [h1]; omega
    · unfold atI; rw [h1]; simpa using h2
theorem at_ge0 {l : List Report} {id : Int} (h : atI l id = -1 ∧ getR l id = none) : decide (atI l id ≥ 0) = false := by rw [h.1]; rfl
theorem at_lt0 {l : List Report} {id : Int} (h : atI l id = -1 ∧ getR l id = none) : decide (atI l id < 0) = true := by rw [h.1]; rfl
theorem at_ge1 {l : List Report} {id : Int} (h : 0 ≤ atI l id) : decide (atI l id ≥ 0) = true := by simpa using h
theorem at_lt1 {l : List Report} {id : Int} (h : 0 ≤ atI l id) : decide (atI l id < 0) = false := by simpa using h
theorem at_idx {l : List Report} {id : Int} {q : Report} (h0 : 0 ≤ atI l id) (h : l[(atI l id).toNat]? = some q) : 0 ≤ (atI l id) ∧ (l.map Report.av)[(atI l id).toNat]? = some (Report.av q) := ⟨h0, by simp [h]⟩
def aimsB (l : List Report) (r : Report) : Bool := match getR l r.Of with
  | some q => (q.Source == r.Source) && (q.Account == r.Account)
  | none => false
def beforeB (a b : Report) : Bool := decide (a.About < b.About) || ((a.About == b.About) && decide (a.Id < b.Id))
theorem aims_ok (l : List Report) (r : Report) (hn : l.length ≤ 65536) : CallA Tryz.prog GT 143 [.sl (l.map Report.av), Report.av r] (.bool (aimsB l r)) := by
  refine callA_of Tryz.func143 rfl (by simp [Tryz.f143]) rfl fun B ac hB hBd hG hS => ?_
  refine runs_seq ?_
  refine reg [] [0, 3] hG hS (env := [(0, .sl (l.map Report.av)), (3, .box 0 0)]) (own := [.box none 73 [.int .i64 r.Id, .int .i64 r.Source, .int .i64 r.Account, .int .i64 r.Made, .int .i64 r.About, .int .u8 (U8.i r.Kind), .int .i64 r.Cents, .int .i64 r.Of]]) (obs := []) (by kernel_rfl) (trivial) fun ac wd hS => ?_
  refine runs_seq ?_
  rcases at_cases l r.Of with hat1 | ⟨q1, hat1a, hat1b, hat1c⟩
  · skip
    refine reg [(3, .av (.int .i64 (atI l r.Of)))] [0, 3, 5] hG hS (env := [(0, .sl (l.map Report.av)), (3, .box 0 0), (5, .int .i64 (atI l r.Of))]) (own := [.box none 73 [.int .i64 r.Id, .int .i64 r.Source, .int .i64 r.Account, .int .i64 r.Made, .int .i64 r.About, .int .u8 (U8.i r.Kind), .int .i64 r.Cents, .int .i64 r.Of]]) (obs := [CallA Tryz.prog GT 48 [.sl (l.map Report.av), .int .i64 r.Of] (.int .i64 (atI l r.Of))]) (by kernel_rfl) ((at_ok _ _ hn)) fun ac wd hS => ?_
    refine runs_seq ?_
    refine drw [(2, .dec false)] [4] hG hS (env := [(4, .bool false)]) (own := [.box none 73 [.int .i64 r.Id, .int .i64 r.Source, .int .i64 r.Account, .int .i64 r.Made, .int .i64 r.About, .int .u8 (U8.i r.Kind), .int .i64 r.Cents, .int .i64 r.Of]]) (obs := [decide ((atI l r.Of) ≥ 0) = false]) (by kernel_rfl) (by kernel_rfl) ((at_ge0 hat1)) fun ac wd hS => ?_
    rw [show (.bool (aimsB l r) : AV) = .bool false from by simp only [aimsB, hat1.2, Bool.and_true, Bool.true_and, Bool.and_false, Bool.false_and, Bool.or_true, Bool.true_or, Bool.or_false, Bool.false_or, Bool.not_true, Bool.not_false]]
    exact retz Tryz.func143 rfl hB hBd hS (by kernel_rfl) rfl
  · skip
    refine reg [(3, .av (.int .i64 (atI l r.Of)))] [0, 3, 5] hG hS (env := [(0, .sl (l.map Report.av)), (3, .box 0 0), (5, .int .i64 (atI l r.Of))]) (own := [.box none 73 [.int .i64 r.Id, .int .i64 r.Source, .int .i64 r.Account, .int .i64 r.Made, .int .i64 r.About, .int .u8 (U8.i r.Kind), .int .i64 r.Cents, .int .i64 r.Of]]) (obs := [CallA Tryz.prog GT 48 [.sl (l.map Report.av), .int .i64 r.Of] (.int .i64 (atI l r.Of))]) (by kernel_rfl) ((at_ok _ _ hn)) fun ac wd hS => ?_
    refine runs_seq ?_
    rcases Bool.eq_false_or_eq_true ((q1.Source == r.Source)) with hb1 | hb1
    · skip
      refine drw [(2, .dec true), (5, .av (Report.av q1)), (12, .dec true), (15, .av (Report.av q1))] [4] hG hS (env := [(4, .bool (q1.Account == r.Account))]) (own := [.box none 73 [.int .i64 r.Id, .int .i64 r.Source, .int .i64 r.Account, .int .i64 r.Made, .int .i64 r.About, .int .u8 (U8.i r.Kind), .int .i64 r.Cents, .int .i64 r.Of]]) (obs := [decide ((atI l r.Of) ≥ 0) = true, 0 ≤ (atI l r.Of : Int) ∧ (l.map Report.av : List AV)[(atI l r.Of : Int).toNat]? = some (Report.av q1), (q1.Source == r.Source) = true, 0 ≤ (atI l r.Of : Int) ∧ (l.map Report.av : List AV)[(atI l r.Of : Int).toNat]? = some (Report.av q1)]) (by kernel_rfl) (by kernel_rfl) (⟨(at_ge1 hat1a), (at_idx hat1a hat1b), hb1, (at_idx hat1a hat1b)⟩) fun ac wd hS => ?_
      rw [show (.bool (aimsB l r) : AV) = .bool (q1.Account == r.Account) from by simp only [aimsB, hat1c, hb1, Bool.and_true, Bool.true_and, Bool.and_false, Bool.false_and, Bool.or_true, Bool.true_or, Bool.or_false, Bool.false_or, Bool.not_true, Bool.not_false]]
      exact retz Tryz.func143 rfl hB hBd hS (by kernel_rfl) rfl
    · skip
      refine drw [(2, .dec true), (5, .av (Report.av q1)), (12, .dec false)] [4] hG hS (env := [(4, .bool false)]) (own := [.box none 73 [.int .i64 r.Id, .int .i64 r.Source, .int .i64 r.Account, .int .i64 r.Made, .int .i64 r.About, .int .u8 (U8.i r.Kind), .int .i64 r.Cents, .int .i64 r.Of]]) (obs := [decide ((atI l r.Of) ≥ 0) = true, 0 ≤ (atI l r.Of : Int) ∧ (l.map Report.av : List AV)[(atI l r.Of : Int).toNat]? = some (Report.av q1), (q1.Source == r.Source) = false]) (by kernel_rfl) (by kernel_rfl) (⟨(at_ge1 hat1a), (at_idx hat1a hat1b), hb1⟩) fun ac wd hS => ?_
      rw [show (.bool (aimsB l r) : AV) = .bool false from by simp only [aimsB, hat1c, hb1, Bool.and_true, Bool.true_and, Bool.and_false, Bool.false_and, Bool.or_true, Bool.true_or, Bool.or_false, Bool.false_or, Bool.not_true, Bool.not_false]]
      exact retz Tryz.func143 rfl hB hBd hS (by kernel_rfl) rfl
theorem before_ok (p q : Report) : CallA Tryz.prog GT 123 [Report.av p, Report.av q] (.bool (beforeB p q)) := by
  refine callA_of Tryz.func123 rfl (by simp [Tryz.f123]) rfl fun B ac hB hBd hG hS => ?_
  refine runs_seq ?_
  refine reg [] [2, 3] hG hS (env := [(2, .box 0 0), (3, .box 1 0)]) (own := [.box none 73 [.int .i64 p.Id, .int .i64 p.Source, .int .i64 p.Account, .int .i64 p.Made, .int .i64 p.About, .int .u8 (U8.i p.Kind), .int .i64 p.Cents, .int .i64 p.Of], .box none 73 [.int .i64 q.Id, .int .i64 q.Source, .int .i64 q.Account, .int .i64 q.Made, .int .i64 q.About, .int .u8 (U8.i q.Kind), .int .i64 q.Cents, .int .i64 q.Of]]) (obs := []) (by kernel_rfl) (trivial) fun ac wd hS => ?_
  refine runs_seq ?_
  rcases Bool.eq_false_or_eq_true (decide (p.About < q.About)) with hb1 | hb1
  · skip
    refine reg [(5, .dec true)] [4] hG hS (env := [(4, .bool true)]) (own := [.box none 73 [.int .i64 p.Id, .int .i64 p.Source, .int .i64 p.Account, .int .i64 p.Made, .int .i64 p.About, .int .u8 (U8.i p.Kind), .int .i64 p.Cents, .int .i64 p.Of], .box none 73 [.int .i64 q.Id, .int .i64 q.Source, .int .i64 q.Account, .int .i64 q.Made, .int .i64 q.About, .int .u8 (U8.i q.Kind), .int .i64 q.Cents, .int .i64 q.Of]]) (obs := [decide (p.About < q.About) = true]) (by kernel_rfl) (hb1) fun ac wd hS => ?_
    rw [show (.bool (beforeB p q) : AV) = .bool true from by ((try simp only [decide_eq_true_eq, decide_eq_false_iff_not, beq_iff_eq, beq_eq_false_iff_ne] at hb1); first | (simp [beforeB, hb1]; done) | (simp [beforeB, hb1]; omega) | (congr 1; simp only [beforeB]; grind))]
    exact retz Tryz.func123 rfl hB hBd hS (by kernel_rfl) rfl
  · skip
    rcases Bool.eq_false_or_eq_true ((p.About == q.About)) with hb2 | hb2
    · skip
      refine reg [(5, .dec false), (11, .dec true)] [4] hG hS (env := [(4, .bool (decide (p.Id < q.Id)))]) (own := [.box none 73 [.int .i64 p.Id, .int .i64 p.Source, .int .i64 p.Account, .int .i64 p.Made, .int .i64 p.About, .int .u8 (U8.i p.Kind), .int .i64 p.Cents, .int .i64 p.Of], .box none 73 [.int .i64 q.Id, .int .i64 q.Source, .int .i64 q.Account, .int .i64 q.Made, .int .i64 q.About, .int .u8 (U8.i q.Kind), .int .i64 q.Cents, .int .i64 q.Of]]) (obs := [decide (p.About < q.About) = false, (p.About == q.About) = true]) (by kernel_rfl) (⟨hb1, hb2⟩) fun ac wd hS => ?_
      rw [show (.bool (beforeB p q) : AV) = .bool (decide (p.Id < q.Id)) from by ((try simp only [decide_eq_true_eq, decide_eq_false_iff_not, beq_iff_eq, beq_eq_false_iff_ne] at hb1); (try simp only [decide_eq_true_eq, decide_eq_false_iff_not, beq_iff_eq, beq_eq_false_iff_ne] at hb2); first | (simp [beforeB, hb1, hb2]; done) | (simp [beforeB, hb1, hb2]; omega) | (congr 1; simp only [beforeB]; grind))]
      exact retz Tryz.func123 rfl hB hBd hS (by kernel_rfl) rfl
    · skip
      refine reg [(5, .dec false), (11, .dec false)] [4] hG hS (env := [(4, .bool false)]) (own := [.box none 73 [.int .i64 p.Id, .int .i64 p.Source, .int .i64 p.Account, .int .i64 p.Made, .int .i64 p.About, .int .u8 (U8.i p.Kind), .int .i64 p.Cents, .int .i64 p.Of], .box none 73 [.int .i64 q.Id, .int .i64 q.Source, .int .i64 q.Account, .int .i64 q.Made, .int .i64 q.About, .int .u8 (U8.i q.Kind), .int .i64 q.Cents, .int .i64 q.Of]]) (obs := [decide (p.About < q.About) = false, (p.About == q.About) = false]) (by kernel_rfl) (⟨hb1, hb2⟩) fun ac wd hS => ?_
      rw [show (.bool (beforeB p q) : AV) = .bool false from by ((try simp only [decide_eq_true_eq, decide_eq_false_iff_not, beq_iff_eq, beq_eq_false_iff_ne] at hb1); (try simp only [decide_eq_true_eq, decide_eq_false_iff_not, beq_iff_eq, beq_eq_false_iff_ne] at hb2); first | (simp [beforeB, hb1, hb2]; done) | (simp [beforeB, hb1, hb2]; omega) | (congr 1; simp only [beforeB]; grind))]
      exact retz Tryz.func123 rfl hB hBd hS (by kernel_rfl) rfl
theorem at_some {l : List Report} {id : Int} {q : Report} (h : getR l id = some q) : 0 ≤ atI l id ∧ l[(atI l id).toNat]? = some q := by
  rcases at_cases l id with ⟨_, h2⟩ | ⟨q', h1, h2, h3⟩
  · rw [h] at h2; cases h2
  · rw [h] at h3; cases h3; exact ⟨h1, h2⟩
def wdStep (l : List Report) (id : Int) (q : Report) (best : Int) (x : Report) : Int :=
  if (U8.i x.Kind == 9) && ((x.Of == id) && ((U8.i q.Kind != 9) && (aimsB l x && (decide (best < 0) || decide (x.Id < best))))) then x.Id else best
def withdrawnI (l : List Report) (id : Int) (q : Report) : Int := l.foldl (wdStep l id q) (-1)
theorem withdrawn_ok (l : List Report) (id : Int) (q : Report) (hq : getR l id = some q) (hn : l.length ≤ 65536) : CallA Tryz.prog GT 121 [.sl (l.map Report.av), .int .i64 id] (.int .i64 (withdrawnI l id q)) := by
  obtain ⟨hk0, hk1⟩ := at_some hq
  refine callA_of Tryz.func121 rfl (by simp [Tryz.f121]) rfl fun B ac hB hBd hG hS => ?_
  refine runs_seq ?_
  refine reg [] [0, 1] hG hS (env := [(0, .sl (l.map Report.av)), (1, .int .i64 id)]) (own := []) (obs := []) (by kernel_rfl) (trivial) fun ac wd hS => ?_
  refine runs_seq ?_
  refine reg [] [0, 1, 5] hG hS (env := [(0, .sl (l.map Report.av)), (1, .int .i64 id), (5, .int .i64 (-1))]) (own := []) (obs := []) (by kernel_rfl) (trivial) fun ac wd hS => ?_
  refine runs_seq ?_
  refine reg [(2, .av (.int .i64 (atI l id)))] [0, 1, 5, 6] hG hS (env := [(0, .sl (l.map Report.av)), (1, .int .i64 id), (5, .int .i64 (-1)), (6, .int .i64 (atI l id))]) (own := []) (obs := [CallA Tryz.prog GT 48 [.sl (l.map Report.av), .int .i64 id] (.int .i64 (atI l id))]) (by kernel_rfl) ((at_ok _ _ hn)) fun ac wd hS => ?_
  refine runs_seq ?_
  refine runs_seq ?_
  refine reg [] [0, 1, 5, 6, 7] hG hS (env := [(0, .sl (l.map Report.av)), (1, .int .i64 id), (5, .int .i64 (-1)), (6, .int .i64 (atI l id)), (7, .int .i64 0)]) (own := []) (obs := []) (by kernel_rfl) (trivial) fun ac wd hS => ?_
  refine runs_block ?_
  refine runs_loop ?_
  have hinv : ∃ (pre rest : List Report) (best : Int), l = pre ++ rest ∧ (l.foldl (wdStep l id q) (-1) = rest.foldl (wdStep l id q) best) ∧ Sat B ⟨Tryz.f121.ntmps, [(0, .sl (l.map Report.av)), (1, .int .i64 id), (5, .int .i64 best), (6, .int .i64 (atI l id)), (7, .int .i64 ((pre.length : Nat) : Int))], []⟩ ac wd := ⟨[], l, (-1), rfl, rfl, hS.sel [] [0, 1, 5, 6, 7] (by kernel_rfl)⟩
  clear hS
  obtain ⟨pre, rest, best, hl, hr, hS⟩ := hinv
  induction rest generalizing pre best ac wd with
  | nil =>
    refine runs_seq ?_
    refine runs_seq ?_
    refine reg [(2, .is ((l.length : Nat) : Int)), (3, .dec false)] [0, 1, 5, 6, 7, 14] hG hS (env := [(0, .sl (l.map Report.av)), (1, .int .i64 id), (5, .int .i64 best), (6, .int .i64 (atI l id)), (7, .int .i64 ((pre.length : Nat) : Int)), (14, .bool false)]) (own := []) (obs := [((l.map Report.av).length : Int) = ((l.length : Nat) : Int), decide (((pre.length : Nat) : Int) < ((l.length : Nat) : Int)) = false]) (by kernel_rfl) (⟨len_map, (lt_no hl)⟩) fun ac wd hS => ?_
    refine cond_no hS (c := false) (by kernel_rfl) rfl ?_
    refine runs_exit (by rfl) ?_
    refine runs_seq ?_
    refine reg [] [4] hG hS (env := [(4, .int .i64 best)]) (own := []) (obs := []) (by kernel_rfl) (trivial) fun ac wd hS => ?_
    rw [show (.int .i64 (withdrawnI l id q) : AV) = .int .i64 best from by simp only [withdrawnI, hr, List.foldl_nil]]
    exact retz Tryz.func121 rfl hB hBd hS (by kernel_rfl) rfl
  | cons x rest ihx =>
    refine runs_seq ?_
    refine runs_seq ?_
    refine reg [(2, .is ((l.length : Nat) : Int)), (3, .dec true)] [0, 1, 5, 6, 7, 14] hG hS (env := [(0, .sl (l.map Report.av)), (1, .int .i64 id), (5, .int .i64 best), (6, .int .i64 (atI l id)), (7, .int .i64 ((pre.length : Nat) : Int)), (14, .bool true)]) (own := []) (obs := [((l.map Report.av).length : Int) = ((l.length : Nat) : Int), decide (((pre.length : Nat) : Int) < ((l.length : Nat) : Int)) = true]) (by kernel_rfl) (⟨len_map, (lt_yes hl)⟩) fun ac wd hS => ?_
    refine cond_yes hS (c := true) (by kernel_rfl) rfl ?_
    refine runs_skip ?_
    refine runs_seq ?_
    refine runs_block ?_
    refine runs_seq ?_
    rcases Bool.eq_false_or_eq_true (((U8.i x.Kind) == 9)) with hb1 | hb1
    · skip
      rcases Bool.eq_false_or_eq_true ((x.Of == id)) with hb2 | hb2
      · skip
        rcases Bool.eq_false_or_eq_true (((U8.i q.Kind) != 9)) with hb3 | hb3
        · skip
          rcases Bool.eq_false_or_eq_true (aimsB l x) with hb4 | hb4
          · skip
            rcases Bool.eq_false_or_eq_true (decide (best < 0)) with hb5 | hb5
            · skip
              refine reg [(2, .av (Report.av x)), (6, .dec true), (9, .av (Report.av x)), (15, .dec true), (18, .av (Report.av q)), (23, .dec true), (27, .av (Report.av x)), (29, .av (.bool (aimsB l x))), (31, .dec true), (34, .dec true)] [0, 1, 5, 6, 7, 60] hG hS (env := [(0, .sl (l.map Report.av)), (1, .int .i64 id), (5, .int .i64 best), (6, .int .i64 (atI l id)), (7, .int .i64 ((pre.length : Nat) : Int)), (60, .bool true)]) (own := []) (obs := [0 ≤ (((pre.length : Nat) : Int) : Int) ∧ (l.map Report.av : List AV)[(((pre.length : Nat) : Int) : Int).toNat]? = some (Report.av x), ((U8.i x.Kind) == 9) = true, 0 ≤ (((pre.length : Nat) : Int) : Int) ∧ (l.map Report.av : List AV)[(((pre.length : Nat) : Int) : Int).toNat]? = some (Report.av x), (x.Of == id) = true, 0 ≤ (atI l id : Int) ∧ (l.map Report.av : List AV)[(atI l id : Int).toNat]? = some (Report.av q), ((U8.i q.Kind) != 9) = true, 0 ≤ (((pre.length : Nat) : Int) : Int) ∧ (l.map Report.av : List AV)[(((pre.length : Nat) : Int) : Int).toNat]? = some (Report.av x), CallA Tryz.prog GT 143 [.sl (l.map Report.av), Report.av x] (.bool (aimsB l x)), aimsB l x = true, decide (best < 0) = true]) (by kernel_rfl) (⟨(idx_ok hl), hb1, (idx_ok hl), hb2, (at_idx hk0 hk1), hb3, (idx_ok hl), (aims_ok _ _ hn), hb4, hb5⟩) fun ac wd hS => ?_
              refine cond_yes hS (c := true) (by kernel_rfl) rfl ?_
              refine reg [(2, .av (Report.av x))] [0, 1, 5, 6, 7] hG hS (env := [(0, .sl (l.map Report.av)), (1, .int .i64 id), (5, .int .i64 x.Id), (6, .int .i64 (atI l id)), (7, .int .i64 ((pre.length : Nat) : Int))]) (own := []) (obs := [0 ≤ (((pre.length : Nat) : Int) : Int) ∧ (l.map Report.av : List AV)[(((pre.length : Nat) : Int) : Int).toNat]? = some (Report.av x)]) (by kernel_rfl) ((idx_ok hl)) fun ac wd hS => ?_
              refine runs_inBlock ?_
              refine reg [(1, .is (((pre ++ [x]).length : Nat) : Int))] [0, 1, 5, 6, 7] hG hS (env := [(0, .sl (l.map Report.av)), (1, .int .i64 id), (5, .int .i64 x.Id), (6, .int .i64 (atI l id)), (7, .int .i64 (((pre ++ [x]).length : Nat) : Int))]) (own := []) (obs := [IntKind.i64.wrap (((pre.length : Nat) : Int) + 1) = (((pre ++ [x]).length : Nat) : Int)]) (by kernel_rfl) ((next_len hl hn)) fun ac wd hS => ?_
              refine runs_inLoop ?_
              exact ihx _ _ (pre ++ [x]) x.Id (next_eq hl) (by rw [hr]; simp only [List.foldl_cons, wdStep, hb1, hb2, hb3, hb4, hb5, Bool.and_true, Bool.true_and, Bool.and_false, Bool.false_and, Bool.or_true, Bool.true_or, Bool.or_false, Bool.false_or, Bool.not_true, Bool.not_false, Bool.false_eq_true, if_true, if_false]) (hS.sel [] [0, 1, 5, 6, 7] (by kernel_rfl))
            · skip
              rcases Bool.eq_false_or_eq_true (decide (x.Id < best)) with hb6 | hb6
              · skip
                refine reg [(2, .av (Report.av x)), (6, .dec true), (9, .av (Report.av x)), (15, .dec true), (18, .av (Report.av q)), (23, .dec true), (27, .av (Report.av x)), (29, .av (.bool (aimsB l x))), (31, .dec true), (34, .dec false), (37, .av (Report.av x)), (43, .dec true)] [0, 1, 5, 6, 7, 60] hG hS (env := [(0, .sl (l.map Report.av)), (1, .int .i64 id), (5, .int .i64 best), (6, .int .i64 (atI l id)), (7, .int .i64 ((pre.length : Nat) : Int)), (60, .bool true)]) (own := []) (obs := [0 ≤ (((pre.length : Nat) : Int) : Int) ∧ (l.map Report.av : List AV)[(((pre.length : Nat) : Int) : Int).toNat]? = some (Report.av x), ((U8.i x.Kind) == 9) = true, 0 ≤ (((pre.length : Nat) : Int) : Int) ∧ (l.map Report.av : List AV)[(((pre.length : Nat) : Int) : Int).toNat]? = some (Report.av x), (x.Of == id) = true, 0 ≤ (atI l id : Int) ∧ (l.map Report.av : List AV)[(atI l id : Int).toNat]? = some (Report.av q), ((U8.i q.Kind) != 9) = true, 0 ≤ (((pre.length : Nat) : Int) : Int) ∧ (l.map Report.av : List AV)[(((pre.length : Nat) : Int) : Int).toNat]? = some (Report.av x), CallA Tryz.prog GT 143 [.sl (l.map Report.av), Report.av x] (.bool (aimsB l x)), aimsB l x = true, decide (best < 0) = false, 0 ≤ (((pre.length : Nat) : Int) : Int) ∧ (l.map Report.av : List AV)[(((pre.length : Nat) : Int) : Int).toNat]? = some (Report.av x), decide (x.Id < best) = true]) (by kernel_rfl) (⟨(idx_ok hl), hb1, (idx_ok hl), hb2, (at_idx hk0 hk1), hb3, (idx_ok hl), (aims_ok _ _ hn), hb4, hb5, (idx_ok hl), hb6⟩) fun ac wd hS => ?_
                refine cond_yes hS (c := true) (by kernel_rfl) rfl ?_
                refine reg [(2, .av (Report.av x))] [0, 1, 5, 6, 7] hG hS (env := [(0, .sl (l.map Report.av)), (1, .int .i64 id), (5, .int .i64 x.Id), (6, .int .i64 (atI l id)), (7, .int .i64 ((pre.length : Nat) : Int))]) (own := []) (obs := [0 ≤ (((pre.length : Nat) : Int) : Int) ∧ (l.map Report.av : List AV)[(((pre.length : Nat) : Int) : Int).toNat]? = some (Report.av x)]) (by kernel_rfl) ((idx_ok hl)) fun ac wd hS => ?_
                refine runs_inBlock ?_
                refine reg [(1, .is (((pre ++ [x]).length : Nat) : Int))] [0, 1, 5, 6, 7] hG hS (env := [(0, .sl (l.map Report.av)), (1, .int .i64 id), (5, .int .i64 x.Id), (6, .int .i64 (atI l id)), (7, .int .i64 (((pre ++ [x]).length : Nat) : Int))]) (own := []) (obs := [IntKind.i64.wrap (((pre.length : Nat) : Int) + 1) = (((pre ++ [x]).length : Nat) : Int)]) (by kernel_rfl) ((next_len hl hn)) fun ac wd hS => ?_
                refine runs_inLoop ?_
                exact ihx _ _ (pre ++ [x]) x.Id (next_eq hl) (by rw [hr]; simp only [List.foldl_cons, wdStep, hb1, hb2, hb3, hb4, hb5, hb6, Bool.and_true, Bool.true_and, Bool.and_false, Bool.false_and, Bool.or_true, Bool.true_or, Bool.or_false, Bool.false_or, Bool.not_true, Bool.not_false, Bool.false_eq_true, if_true, if_false]) (hS.sel [] [0, 1, 5, 6, 7] (by kernel_rfl))
              · skip
                refine reg [(2, .av (Report.av x)), (6, .dec true), (9, .av (Report.av x)), (15, .dec true), (18, .av (Report.av q)), (23, .dec true), (27, .av (Report.av x)), (29, .av (.bool (aimsB l x))), (31, .dec true), (34, .dec false), (37, .av (Report.av x)), (43, .dec false)] [0, 1, 5, 6, 7, 60] hG hS (env := [(0, .sl (l.map Report.av)), (1, .int .i64 id), (5, .int .i64 best), (6, .int .i64 (atI l id)), (7, .int .i64 ((pre.length : Nat) : Int)), (60, .bool false)]) (own := []) (obs := [0 ≤ (((pre.length : Nat) : Int) : Int) ∧ (l.map Report.av : List AV)[(((pre.length : Nat) : Int) : Int).toNat]? = some (Report.av x), ((U8.i x.Kind) == 9) = true, 0 ≤ (((pre.length : Nat) : Int) : Int) ∧ (l.map Report.av : List AV)[(((pre.length : Nat) : Int) : Int).toNat]? = some (Report.av x), (x.Of == id) = true, 0 ≤ (atI l id : Int) ∧ (l.map Report.av : List AV)[(atI l id : Int).toNat]? = some (Report.av q), ((U8.i q.Kind) != 9) = true, 0 ≤ (((pre.length : Nat) : Int) : Int) ∧ (l.map Report.av : List AV)[(((pre.length : Nat) : Int) : Int).toNat]? = some (Report.av x), CallA Tryz.prog GT 143 [.sl (l.map Report.av), Report.av x] (.bool (aimsB l x)), aimsB l x = true, decide (best < 0) = false, 0 ≤ (((pre.length : Nat) : Int) : Int) ∧ (l.map Report.av : List AV)[(((pre.length : Nat) : Int) : Int).toNat]? = some (Report.av x), decide (x.Id < best) = false]) (by kernel_rfl) (⟨(idx_ok hl), hb1, (idx_ok hl), hb2, (at_idx hk0 hk1), hb3, (idx_ok hl), (aims_ok _ _ hn), hb4, hb5, (idx_ok hl), hb6⟩) fun ac wd hS => ?_
                refine cond_no hS (c := false) (by kernel_rfl) rfl ?_
                refine runs_skip ?_
                refine runs_inBlock ?_
                refine reg [(1, .is (((pre ++ [x]).length : Nat) : Int))] [0, 1, 5, 6, 7] hG hS (env := [(0, .sl (l.map Report.av)), (1, .int .i64 id), (5, .int .i64 best), (6, .int .i64 (atI l id)), (7, .int .i64 (((pre ++ [x]).length : Nat) : Int))]) (own := []) (obs := [IntKind.i64.wrap (((pre.length : Nat) : Int) + 1) = (((pre ++ [x]).length : Nat) : Int)]) (by kernel_rfl) ((next_len hl hn)) fun ac wd hS => ?_
                refine runs_inLoop ?_
                exact ihx _ _ (pre ++ [x]) best (next_eq hl) (by rw [hr]; simp only [List.foldl_cons, wdStep, hb1, hb2, hb3, hb4, hb5, hb6, Bool.and_true, Bool.true_and, Bool.and_false, Bool.false_and, Bool.or_true, Bool.true_or, Bool.or_false, Bool.false_or, Bool.not_true, Bool.not_false, Bool.false_eq_true, if_true, if_false]) (hS.sel [] [0, 1, 5, 6, 7] (by kernel_rfl))
          · skip
            refine reg [(2, .av (Report.av x)), (6, .dec true), (9, .av (Report.av x)), (15, .dec true), (18, .av (Report.av q)), (23, .dec true), (27, .av (Report.av x)), (29, .av (.bool (aimsB l x))), (31, .dec false)] [0, 1, 5, 6, 7, 60] hG hS (env := [(0, .sl (l.map Report.av)), (1, .int .i64 id), (5, .int .i64 best), (6, .int .i64 (atI l id)), (7, .int .i64 ((pre.length : Nat) : Int)), (60, .bool false)]) (own := []) (obs := [0 ≤ (((pre.length : Nat) : Int) : Int) ∧ (l.map Report.av : List AV)[(((pre.length : Nat) : Int) : Int).toNat]? = some (Report.av x), ((U8.i x.Kind) == 9) = true, 0 ≤ (((pre.length : Nat) : Int) : Int) ∧ (l.map Report.av : List AV)[(((pre.length : Nat) : Int) : Int).toNat]? = some (Report.av x), (x.Of == id) = true, 0 ≤ (atI l id : Int) ∧ (l.map Report.av : List AV)[(atI l id : Int).toNat]? = some (Report.av q), ((U8.i q.Kind) != 9) = true, 0 ≤ (((pre.length : Nat) : Int) : Int) ∧ (l.map Report.av : List AV)[(((pre.length : Nat) : Int) : Int).toNat]? = some (Report.av x), CallA Tryz.prog GT 143 [.sl (l.map Report.av), Report.av x] (.bool (aimsB l x)), aimsB l x = false]) (by kernel_rfl) (⟨(idx_ok hl), hb1, (idx_ok hl), hb2, (at_idx hk0 hk1), hb3, (idx_ok hl), (aims_ok _ _ hn), hb4⟩) fun ac wd hS => ?_
            refine cond_no hS (c := false) (by kernel_rfl) rfl ?_
            refine runs_skip ?_
            refine runs_inBlock ?_
            refine reg [(1, .is (((pre ++ [x]).length : Nat) : Int))] [0, 1, 5, 6, 7] hG hS (env := [(0, .sl (l.map Report.av)), (1, .int .i64 id), (5, .int .i64 best), (6, .int .i64 (atI l id)), (7, .int .i64 (((pre ++ [x]).length : Nat) : Int))]) (own := []) (obs := [IntKind.i64.wrap (((pre.length : Nat) : Int) + 1) = (((pre ++ [x]).length : Nat) : Int)]) (by kernel_rfl) ((next_len hl hn)) fun ac wd hS => ?_
            refine runs_inLoop ?_
            exact ihx _ _ (pre ++ [x]) best (next_eq hl) (by rw [hr]; simp only [List.foldl_cons, wdStep, hb1, hb2, hb3, hb4, Bool.and_true, Bool.true_and, Bool.and_false, Bool.false_and, Bool.or_true, Bool.true_or, Bool.or_false, Bool.false_or, Bool.not_true, Bool.not_false, Bool.false_eq_true, if_true, if_false]) (hS.sel [] [0, 1, 5, 6, 7] (by kernel_rfl))
        · skip
          refine reg [(2, .av (Report.av x)), (6, .dec true), (9, .av (Report.av x)), (15, .dec true), (18, .av (Report.av q)), (23, .dec false)] [0, 1, 5, 6, 7, 60] hG hS (env := [(0, .sl (l.map Report.av)), (1, .int .i64 id), (5, .int .i64 best), (6, .int .i64 (atI l id)), (7, .int .i64 ((pre.length : Nat) : Int)), (60, .bool false)]) (own := []) (obs := [0 ≤ (((pre.length : Nat) : Int) : Int) ∧ (l.map Report.av : List AV)[(((pre.length : Nat) : Int) : Int).toNat]? = some (Report.av x), ((U8.i x.Kind) == 9) = true, 0 ≤ (((pre.length : Nat) : Int) : Int) ∧ (l.map Report.av : List AV)[(((pre.length : Nat) : Int) : Int).toNat]? = some (Report.av x), (x.Of == id) = true, 0 ≤ (atI l id : Int) ∧ (l.map Report.av : List AV)[(atI l id : Int).toNat]? = some (Report.av q), ((U8.i q.Kind) != 9) = false]) (by kernel_rfl) (⟨(idx_ok hl), hb1, (idx_ok hl), hb2, (at_idx hk0 hk1), hb3⟩) fun ac wd hS => ?_
          refine cond_no hS (c := false) (by kernel_rfl) rfl ?_
          refine runs_skip ?_
          refine runs_inBlock ?_
          refine reg [(1, .is (((pre ++ [x]).length : Nat) : Int))] [0, 1, 5, 6, 7] hG hS (env := [(0, .sl (l.map Report.av)), (1, .int .i64 id), (5, .int .i64 best), (6, .int .i64 (atI l id)), (7, .int .i64 (((pre ++ [x]).length : Nat) : Int))]) (own := []) (obs := [IntKind.i64.wrap (((pre.length : Nat) : Int) + 1) = (((pre ++ [x]).length : Nat) : Int)]) (by kernel_rfl) ((next_len hl hn)) fun ac wd hS => ?_
          refine runs_inLoop ?_
          exact ihx _ _ (pre ++ [x]) best (next_eq hl) (by rw [hr]; simp only [List.foldl_cons, wdStep, hb1, hb2, hb3, Bool.and_true, Bool.true_and, Bool.and_false, Bool.false_and, Bool.or_true, Bool.true_or, Bool.or_false, Bool.false_or, Bool.not_true, Bool.not_false, Bool.false_eq_true, if_true, if_false]) (hS.sel [] [0, 1, 5, 6, 7] (by kernel_rfl))
      · skip
        refine reg [(2, .av (Report.av x)), (6, .dec true), (9, .av (Report.av x)), (15, .dec false)] [0, 1, 5, 6, 7, 60] hG hS (env := [(0, .sl (l.map Report.av)), (1, .int .i64 id), (5, .int .i64 best), (6, .int .i64 (atI l id)), (7, .int .i64 ((pre.length : Nat) : Int)), (60, .bool false)]) (own := []) (obs := [0 ≤ (((pre.length : Nat) : Int) : Int) ∧ (l.map Report.av : List AV)[(((pre.length : Nat) : Int) : Int).toNat]? = some (Report.av x), ((U8.i x.Kind) == 9) = true, 0 ≤ (((pre.length : Nat) : Int) : Int) ∧ (l.map Report.av : List AV)[(((pre.length : Nat) : Int) : Int).toNat]? = some (Report.av x), (x.Of == id) = false]) (by kernel_rfl) (⟨(idx_ok hl), hb1, (idx_ok hl), hb2⟩) fun ac wd hS => ?_
        refine cond_no hS (c := false) (by kernel_rfl) rfl ?_
        refine runs_skip ?_
        refine runs_inBlock ?_
        refine reg [(1, .is (((pre ++ [x]).length : Nat) : Int))] [0, 1, 5, 6, 7] hG hS (env := [(0, .sl (l.map Report.av)), (1, .int .i64 id), (5, .int .i64 best), (6, .int .i64 (atI l id)), (7, .int .i64 (((pre ++ [x]).length : Nat) : Int))]) (own := []) (obs := [IntKind.i64.wrap (((pre.length : Nat) : Int) + 1) = (((pre ++ [x]).length : Nat) : Int)]) (by kernel_rfl) ((next_len hl hn)) fun ac wd hS => ?_
        refine runs_inLoop ?_
        exact ihx _ _ (pre ++ [x]) best (next_eq hl) (by rw [hr]; simp only [List.foldl_cons, wdStep, hb1, hb2, Bool.and_true, Bool.true_and, Bool.and_false, Bool.false_and, Bool.or_true, Bool.true_or, Bool.or_false, Bool.false_or, Bool.not_true, Bool.not_false, Bool.false_eq_true, if_true, if_false]) (hS.sel [] [0, 1, 5, 6, 7] (by kernel_rfl))
    · skip
      refine reg [(2, .av (Report.av x)), (6, .dec false)] [0, 1, 5, 6, 7, 60] hG hS (env := [(0, .sl (l.map Report.av)), (1, .int .i64 id), (5, .int .i64 best), (6, .int .i64 (atI l id)), (7, .int .i64 ((pre.length : Nat) : Int)), (60, .bool false)]) (own := []) (obs := [0 ≤ (((pre.length : Nat) : Int) : Int) ∧ (l.map Report.av : List AV)[(((pre.length : Nat) : Int) : Int).toNat]? = some (Report.av x), ((U8.i x.Kind) == 9) = false]) (by kernel_rfl) (⟨(idx_ok hl), hb1⟩) fun ac wd hS => ?_
      refine cond_no hS (c := false) (by kernel_rfl) rfl ?_
      refine runs_skip ?_
      refine runs_inBlock ?_
      refine reg [(1, .is (((pre ++ [x]).length : Nat) : Int))] [0, 1, 5, 6, 7] hG hS (env := [(0, .sl (l.map Report.av)), (1, .int .i64 id), (5, .int .i64 best), (6, .int .i64 (atI l id)), (7, .int .i64 (((pre ++ [x]).length : Nat) : Int))]) (own := []) (obs := [IntKind.i64.wrap (((pre.length : Nat) : Int) + 1) = (((pre ++ [x]).length : Nat) : Int)]) (by kernel_rfl) ((next_len hl hn)) fun ac wd hS => ?_
      refine runs_inLoop ?_
      exact ihx _ _ (pre ++ [x]) best (next_eq hl) (by rw [hr]; simp only [List.foldl_cons, wdStep, hb1, Bool.and_true, Bool.true_and, Bool.and_false, Bool.false_and, Bool.or_true, Bool.true_or, Bool.or_false, Bool.false_or, Bool.not_true, Bool.not_false, Bool.false_eq_true, if_true, if_false]) (hS.sel [] [0, 1, 5, 6, 7] (by kernel_rfl))
end Go.Fw

set_option maxRecDepth 20000
namespace Go.Fw
open Go.Proofs

def knownStep (known : Int) (out : List Report) (x : Report) : List Report := if decide (x.Made ≤ known) && decide (atI out x.Id < 0) then out ++ [x] else out
def knownL (l : List Report) (known : Int) : List Report := l.foldl (knownStep known) []
theorem app_ok1 {k : Nat} {av : Report → AV} {out : List Report} {x : AV} (h : out.length < 65536) (h1 : x.cells.length = k) (h2 : x.cells.all AV.one = true) : AppOK k (out.map av) [x] := by
  refine ⟨by simp; omega, fun e he => ?_⟩
  simp at he; subst he; exact ⟨h1, h2⟩
theorem known_ok (l : List Report) (known : Int) (hn : l.length ≤ 60000) : CallA Tryz.prog GT 86 [.sl (l.map Report.av), .int .i64 known] (.sl ((knownL l known).map Report.av)) := by
  have hn' : l.length ≤ 65536 := by omega
  refine callA_of Tryz.func86 rfl (by simp [Tryz.f86]) rfl fun B ac hB hBd hG hS => ?_
  refine runs_seq ?_
  refine reg [] [0, 1] hG hS (env := [(0, .sl (l.map Report.av)), (1, .int .i64 known)]) (own := []) (obs := []) (by kernel_rfl) (trivial) fun ac wd hS => ?_
  refine runs_seq ?_
  refine reg [(0, .row 73 8)] [0, 1, 5] hG hS (env := [(0, .sl (l.map Report.av)), (1, .int .i64 known), (5, .osl 0)]) (own := [.row 73 8 []]) (obs := []) (by kernel_rfl) (trivial) fun ac wd hS => ?_
  refine runs_seq ?_
  refine runs_seq ?_
  refine reg [] [0, 1, 5, 6] hG hS (env := [(0, .sl (l.map Report.av)), (1, .int .i64 known), (5, .osl 0), (6, .int .i64 0)]) (own := [.row 73 8 []]) (obs := []) (by kernel_rfl) (trivial) fun ac wd hS => ?_
  refine runs_block ?_
  refine runs_loop ?_
  have hinv : ∃ (pre rest : List Report) (out : List Report), l = pre ++ rest ∧ (l.foldl (knownStep known) [] = rest.foldl (knownStep known) out) ∧ (out.length ≤ pre.length ∧ pre.length ≤ 60000) ∧ Sat B ⟨Tryz.f86.ntmps, [(0, .sl (l.map Report.av)), (1, .int .i64 known), (5, .osl 0), (6, .int .i64 ((pre.length : Nat) : Int))], [.row 73 8 (out.map Report.av)]⟩ ac wd := ⟨[], l, [], rfl, rfl, ⟨by simp, by simp⟩, hS.sel [0] [0, 1, 5, 6] (by kernel_rfl)⟩
  clear hS
  obtain ⟨pre, rest, out, hl, hr, hlen, hS⟩ := hinv
  induction rest generalizing pre out ac wd with
  | nil =>
    refine runs_seq ?_
    refine runs_seq ?_
    refine reg [(2, .is ((l.length : Nat) : Int)), (3, .dec false)] [0, 1, 5, 6, 10] hG hS (env := [(0, .sl (l.map Report.av)), (1, .int .i64 known), (5, .osl 0), (6, .int .i64 ((pre.length : Nat) : Int)), (10, .bool false)]) (own := [.row 73 8 (out.map Report.av)]) (obs := [((l.map Report.av).length : Int) = ((l.length : Nat) : Int), decide (((pre.length : Nat) : Int) < ((l.length : Nat) : Int)) = false]) (by kernel_rfl) (⟨len_map, (lt_no hl)⟩) fun ac wd hS => ?_
    refine cond_no hS (c := false) (by kernel_rfl) rfl ?_
    refine runs_exit (by rfl) ?_
    refine runs_seq ?_
    refine reg [] [4] hG hS (env := [(4, .osl 0)]) (own := [.row 73 8 (out.map Report.av)]) (obs := []) (by kernel_rfl) (trivial) fun ac wd hS => ?_
    rw [show (.sl ((knownL l known).map Report.av) : AV) = .sl (out.map Report.av) from by simp only [knownL, hr, List.foldl_nil]]
    exact retz Tryz.func86 rfl hB hBd hS (by kernel_rfl) rfl
  | cons x rest ihx =>
    refine runs_seq ?_
    refine runs_seq ?_
    refine reg [(2, .is ((l.length : Nat) : Int)), (3, .dec true)] [0, 1, 5, 6, 10] hG hS (env := [(0, .sl (l.map Report.av)), (1, .int .i64 known), (5, .osl 0), (6, .int .i64 ((pre.length : Nat) : Int)), (10, .bool true)]) (own := [.row 73 8 (out.map Report.av)]) (obs := [((l.map Report.av).length : Int) = ((l.length : Nat) : Int), decide (((pre.length : Nat) : Int) < ((l.length : Nat) : Int)) = true]) (by kernel_rfl) (⟨len_map, (lt_yes hl)⟩) fun ac wd hS => ?_
    refine cond_yes hS (c := true) (by kernel_rfl) rfl ?_
    refine runs_skip ?_
    refine runs_seq ?_
    refine runs_block ?_
    refine runs_seq ?_
    rcases Bool.eq_false_or_eq_true (decide (x.Made ≤ known)) with hb1 | hb1
    · skip
      rcases Bool.eq_false_or_eq_true (decide ((atI out x.Id) < 0)) with hb2 | hb2
      · skip
        refine reg [(2, .av (Report.av x)), (7, .dec true), (11, .av (Report.av x)), (14, .lend (.int .i64 (atI out x.Id))), (16, .dec true)] [0, 1, 5, 6, 29] hG hS (env := [(0, .sl (l.map Report.av)), (1, .int .i64 known), (5, .osl 0), (6, .int .i64 ((pre.length : Nat) : Int)), (29, .bool true)]) (own := [.row 73 8 (out.map Report.av)]) (obs := [0 ≤ (((pre.length : Nat) : Int) : Int) ∧ (l.map Report.av : List AV)[(((pre.length : Nat) : Int) : Int).toNat]? = some (Report.av x), decide (x.Made ≤ known) = true, 0 ≤ (((pre.length : Nat) : Int) : Int) ∧ (l.map Report.av : List AV)[(((pre.length : Nat) : Int) : Int).toNat]? = some (Report.av x), CallA Tryz.prog GT 48 [.sl (out.map Report.av), .int .i64 x.Id] (.int .i64 (atI out x.Id)), decide ((atI out x.Id) < 0) = true]) (by kernel_rfl) (⟨(idx_ok hl), hb1, (idx_ok hl), (at_ok _ _ (by have := hlen; omega)), hb2⟩) fun ac wd hS => ?_
        refine cond_yes hS (c := true) (by kernel_rfl) rfl ?_
        refine reg [(3, .av (Report.av x)), (6, .lst ((out ++ [x]).map Report.av))] [0, 1, 5, 6] hG hS (env := [(0, .sl (l.map Report.av)), (1, .int .i64 known), (5, .osl 1), (6, .int .i64 ((pre.length : Nat) : Int))]) (own := [.gone, .row 73 8 ((out ++ [x]).map Report.av)]) (obs := [0 ≤ (((pre.length : Nat) : Int) : Int) ∧ (l.map Report.av : List AV)[(((pre.length : Nat) : Int) : Int).toNat]? = some (Report.av x), AppOK 8 (out.map Report.av) [Report.av x] ∧ (out ++ [x]).map Report.av = (out.map Report.av) ++ [Report.av x]]) (by kernel_rfl) (⟨(idx_ok hl), ⟨app_ok1 (by have := hlen; have h9 := congrArg List.length hl; simp at h9; omega) rfl rfl, by simp⟩⟩) fun ac wd hS => ?_
        refine runs_inBlock ?_
        refine reg [(1, .is (((pre ++ [x]).length : Nat) : Int))] [0, 1, 5, 6] hG hS (env := [(0, .sl (l.map Report.av)), (1, .int .i64 known), (5, .osl 1), (6, .int .i64 (((pre ++ [x]).length : Nat) : Int))]) (own := [.gone, .row 73 8 ((out ++ [x]).map Report.av)]) (obs := [IntKind.i64.wrap (((pre.length : Nat) : Int) + 1) = (((pre ++ [x]).length : Nat) : Int)]) (by kernel_rfl) ((next_len hl hn')) fun ac wd hS => ?_
        refine runs_inLoop ?_
        exact ihx _ _ (pre ++ [x]) (out ++ [x]) (next_eq hl) (by rw [hr]; simp only [List.foldl_cons, knownStep, hb1, hb2, Bool.and_true, Bool.true_and, Bool.and_false, Bool.false_and, Bool.or_true, Bool.true_or, Bool.or_false, Bool.false_or, Bool.not_true, Bool.not_false, Bool.false_eq_true, if_true, if_false]) (by have h9 := congrArg List.length hl; simp at h9; constructor <;> (try simp) <;> omega) (hS.sel [1] [0, 1, 5, 6] (by kernel_rfl))
      · skip
        refine reg [(2, .av (Report.av x)), (7, .dec true), (11, .av (Report.av x)), (14, .lend (.int .i64 (atI out x.Id))), (16, .dec false)] [0, 1, 5, 6, 29] hG hS (env := [(0, .sl (l.map Report.av)), (1, .int .i64 known), (5, .osl 0), (6, .int .i64 ((pre.length : Nat) : Int)), (29, .bool false)]) (own := [.row 73 8 (out.map Report.av)]) (obs := [0 ≤ (((pre.length : Nat) : Int) : Int) ∧ (l.map Report.av : List AV)[(((pre.length : Nat) : Int) : Int).toNat]? = some (Report.av x), decide (x.Made ≤ known) = true, 0 ≤ (((pre.length : Nat) : Int) : Int) ∧ (l.map Report.av : List AV)[(((pre.length : Nat) : Int) : Int).toNat]? = some (Report.av x), CallA Tryz.prog GT 48 [.sl (out.map Report.av), .int .i64 x.Id] (.int .i64 (atI out x.Id)), decide ((atI out x.Id) < 0) = false]) (by kernel_rfl) (⟨(idx_ok hl), hb1, (idx_ok hl), (at_ok _ _ (by have := hlen; omega)), hb2⟩) fun ac wd hS => ?_
        refine cond_no hS (c := false) (by kernel_rfl) rfl ?_
        refine runs_skip ?_
        refine runs_inBlock ?_
        refine reg [(1, .is (((pre ++ [x]).length : Nat) : Int))] [0, 1, 5, 6] hG hS (env := [(0, .sl (l.map Report.av)), (1, .int .i64 known), (5, .osl 0), (6, .int .i64 (((pre ++ [x]).length : Nat) : Int))]) (own := [.row 73 8 (out.map Report.av)]) (obs := [IntKind.i64.wrap (((pre.length : Nat) : Int) + 1) = (((pre ++ [x]).length : Nat) : Int)]) (by kernel_rfl) ((next_len hl hn')) fun ac wd hS => ?_
        refine runs_inLoop ?_
        exact ihx _ _ (pre ++ [x]) out (next_eq hl) (by rw [hr]; simp only [List.foldl_cons, knownStep, hb1, hb2, Bool.and_true, Bool.true_and, Bool.and_false, Bool.false_and, Bool.or_true, Bool.true_or, Bool.or_false, Bool.false_or, Bool.not_true, Bool.not_false, Bool.false_eq_true, if_true, if_false]) (by have h9 := congrArg List.length hl; simp at h9; constructor <;> (try simp) <;> omega) (hS.sel [0] [0, 1, 5, 6] (by kernel_rfl))
    · skip
      refine reg [(2, .av (Report.av x)), (7, .dec false)] [0, 1, 5, 6, 29] hG hS (env := [(0, .sl (l.map Report.av)), (1, .int .i64 known), (5, .osl 0), (6, .int .i64 ((pre.length : Nat) : Int)), (29, .bool false)]) (own := [.row 73 8 (out.map Report.av)]) (obs := [0 ≤ (((pre.length : Nat) : Int) : Int) ∧ (l.map Report.av : List AV)[(((pre.length : Nat) : Int) : Int).toNat]? = some (Report.av x), decide (x.Made ≤ known) = false]) (by kernel_rfl) (⟨(idx_ok hl), hb1⟩) fun ac wd hS => ?_
      refine cond_no hS (c := false) (by kernel_rfl) rfl ?_
      refine runs_skip ?_
      refine runs_inBlock ?_
      refine reg [(1, .is (((pre ++ [x]).length : Nat) : Int))] [0, 1, 5, 6] hG hS (env := [(0, .sl (l.map Report.av)), (1, .int .i64 known), (5, .osl 0), (6, .int .i64 (((pre ++ [x]).length : Nat) : Int))]) (own := [.row 73 8 (out.map Report.av)]) (obs := [IntKind.i64.wrap (((pre.length : Nat) : Int) + 1) = (((pre ++ [x]).length : Nat) : Int)]) (by kernel_rfl) ((next_len hl hn')) fun ac wd hS => ?_
      refine runs_inLoop ?_
      exact ihx _ _ (pre ++ [x]) out (next_eq hl) (by rw [hr]; simp only [List.foldl_cons, knownStep, hb1, Bool.and_true, Bool.true_and, Bool.and_false, Bool.false_and, Bool.or_true, Bool.true_or, Bool.or_false, Bool.false_or, Bool.not_true, Bool.not_false, Bool.false_eq_true, if_true, if_false]) (by have h9 := congrArg List.length hl; simp at h9; constructor <;> (try simp) <;> omega) (hS.sel [0] [0, 1, 5, 6] (by kernel_rfl))
def landI (l : List Home) (acc : Int) : Int := match l.find? (fun x => x.Account == acc) with
  | some h => h.Land
  | none => -1
def closeStep (acc : Int) (best : Int) (x : Report) : Int := if (x.Account == acc) && ((U8.i x.Kind == 7) && (decide (best < 0) || decide (x.About < best))) then x.About else best
def closingI (l : List Report) (acc : Int) : Int := l.foldl (closeStep acc) (-1)
def askedI (c : Code) (h : List Home) (l : List Report) : Int := if (checkRefI c h != 0) then checkRefI c h else checkR l
theorem landRef_ok (l : List Home) (acc : Int) (hn : l.length ≤ 65536) : CallA Tryz.prog GT 74 [.sl (l.map Home.av), .int .i64 acc] (.int .i64 (landI l acc)) := by
  refine callA_of Tryz.func74 rfl (by simp [Tryz.f74]) rfl fun B ac hB hBd hG hS => ?_
  refine runs_seq ?_
  refine reg [] [0, 1] hG hS (env := [(0, .sl (l.map Home.av)), (1, .int .i64 acc)]) (own := []) (obs := []) (by kernel_rfl) (trivial) fun ac wd hS => ?_
  refine runs_seq ?_
  refine runs_seq ?_
  refine reg [] [0, 1, 5] hG hS (env := [(0, .sl (l.map Home.av)), (1, .int .i64 acc), (5, .int .i64 0)]) (own := []) (obs := []) (by kernel_rfl) (trivial) fun ac wd hS => ?_
  refine runs_block ?_
  refine runs_loop ?_
  have hinv : ∃ (pre rest : List Home), l = pre ++ rest ∧ (landI l acc = landI rest acc) ∧ Sat B ⟨Tryz.f74.ntmps, [(0, .sl (l.map Home.av)), (1, .int .i64 acc), (5, .int .i64 ((pre.length : Nat) : Int))], []⟩ ac wd := ⟨[], l, rfl, rfl, hS.sel [] [0, 1, 5] (by kernel_rfl)⟩
  clear hS
  obtain ⟨pre, rest, hl, hr, hS⟩ := hinv
  induction rest generalizing pre  ac wd with
  | nil =>
    refine runs_seq ?_
    refine runs_seq ?_
    refine reg [(2, .is ((l.length : Nat) : Int)), (3, .dec false)] [0, 1, 5, 9] hG hS (env := [(0, .sl (l.map Home.av)), (1, .int .i64 acc), (5, .int .i64 ((pre.length : Nat) : Int)), (9, .bool false)]) (own := []) (obs := [((l.map Home.av).length : Int) = ((l.length : Nat) : Int), decide (((pre.length : Nat) : Int) < ((l.length : Nat) : Int)) = false]) (by kernel_rfl) (⟨len_map, (lt_no hl)⟩) fun ac wd hS => ?_
    refine cond_no hS (c := false) (by kernel_rfl) rfl ?_
    refine runs_exit (by rfl) ?_
    refine runs_seq ?_
    refine reg [] [4] hG hS (env := [(4, .int .i64 (-1))]) (own := []) (obs := []) (by kernel_rfl) (trivial) fun ac wd hS => ?_
    rw [hr]; rw [show (.int .i64 (landI [] acc) : AV) = .int .i64 (-1) from by simp only [landI, List.find?]]
    exact retz Tryz.func74 rfl hB hBd hS (by kernel_rfl) rfl
  | cons x rest ihx =>
    refine runs_seq ?_
    refine runs_seq ?_
    refine reg [(2, .is ((l.length : Nat) : Int)), (3, .dec true)] [0, 1, 5, 9] hG hS (env := [(0, .sl (l.map Home.av)), (1, .int .i64 acc), (5, .int .i64 ((pre.length : Nat) : Int)), (9, .bool true)]) (own := []) (obs := [((l.map Home.av).length : Int) = ((l.length : Nat) : Int), decide (((pre.length : Nat) : Int) < ((l.length : Nat) : Int)) = true]) (by kernel_rfl) (⟨len_map, (lt_yes hl)⟩) fun ac wd hS => ?_
    refine cond_yes hS (c := true) (by kernel_rfl) rfl ?_
    refine runs_skip ?_
    refine runs_seq ?_
    refine runs_block ?_
    refine runs_seq ?_
    rcases Bool.eq_false_or_eq_true ((x.Account == acc)) with hb1 | hb1
    · skip
      refine reg [(2, .av (Home.av x)), (6, .dec true)] [0, 1, 5, 18] hG hS (env := [(0, .sl (l.map Home.av)), (1, .int .i64 acc), (5, .int .i64 ((pre.length : Nat) : Int)), (18, .bool true)]) (own := []) (obs := [0 ≤ (((pre.length : Nat) : Int) : Int) ∧ (l.map Home.av : List AV)[(((pre.length : Nat) : Int) : Int).toNat]? = some (Home.av x), (x.Account == acc) = true]) (by kernel_rfl) (⟨(idx_ok hl), hb1⟩) fun ac wd hS => ?_
      refine cond_yes hS (c := true) (by kernel_rfl) rfl ?_
      refine runs_seq ?_
      refine reg [(2, .av (Home.av x))] [4] hG hS (env := [(4, .int .i64 x.Land)]) (own := []) (obs := [0 ≤ (((pre.length : Nat) : Int) : Int) ∧ (l.map Home.av : List AV)[(((pre.length : Nat) : Int) : Int).toNat]? = some (Home.av x)]) (by kernel_rfl) ((idx_ok hl)) fun ac wd hS => ?_
      rw [hr]; rw [show (.int .i64 (landI (x :: rest) acc) : AV) = .int .i64 x.Land from by simp only [landI, List.find?, hb1]]
      exact retz Tryz.func74 rfl hB hBd hS (by kernel_rfl) rfl
    · skip
      refine reg [(2, .av (Home.av x)), (6, .dec false)] [0, 1, 5, 18] hG hS (env := [(0, .sl (l.map Home.av)), (1, .int .i64 acc), (5, .int .i64 ((pre.length : Nat) : Int)), (18, .bool false)]) (own := []) (obs := [0 ≤ (((pre.length : Nat) : Int) : Int) ∧ (l.map Home.av : List AV)[(((pre.length : Nat) : Int) : Int).toNat]? = some (Home.av x), (x.Account == acc) = false]) (by kernel_rfl) (⟨(idx_ok hl), hb1⟩) fun ac wd hS => ?_
      refine cond_no hS (c := false) (by kernel_rfl) rfl ?_
      refine runs_skip ?_
      refine runs_inBlock ?_
      refine reg [(1, .is (((pre ++ [x]).length : Nat) : Int))] [0, 1, 5] hG hS (env := [(0, .sl (l.map Home.av)), (1, .int .i64 acc), (5, .int .i64 (((pre ++ [x]).length : Nat) : Int))]) (own := []) (obs := [IntKind.i64.wrap (((pre.length : Nat) : Int) + 1) = (((pre ++ [x]).length : Nat) : Int)]) (by kernel_rfl) ((next_len hl hn)) fun ac wd hS => ?_
      refine runs_inLoop ?_
      exact ihx _ _ (pre ++ [x])  (next_eq hl) (by rw [hr]; simp only [landI, List.find?, hb1]) (hS.sel [] [0, 1, 5] (by kernel_rfl))
theorem closing_ok (l : List Report) (acc : Int) (hn : l.length ≤ 65536) : CallA Tryz.prog GT 87 [.sl (l.map Report.av), .int .i64 acc] (.int .i64 (closingI l acc)) := by
  refine callA_of Tryz.func87 rfl (by simp [Tryz.f87]) rfl fun B ac hB hBd hG hS => ?_
  refine runs_seq ?_
  refine reg [] [0, 1] hG hS (env := [(0, .sl (l.map Report.av)), (1, .int .i64 acc)]) (own := []) (obs := []) (by kernel_rfl) (trivial) fun ac wd hS => ?_
  refine runs_seq ?_
  refine reg [] [0, 1, 5] hG hS (env := [(0, .sl (l.map Report.av)), (1, .int .i64 acc), (5, .int .i64 (-1))]) (own := []) (obs := []) (by kernel_rfl) (trivial) fun ac wd hS => ?_
  refine runs_seq ?_
  refine runs_seq ?_
  refine reg [] [0, 1, 5, 6] hG hS (env := [(0, .sl (l.map Report.av)), (1, .int .i64 acc), (5, .int .i64 (-1)), (6, .int .i64 0)]) (own := []) (obs := []) (by kernel_rfl) (trivial) fun ac wd hS => ?_
  refine runs_block ?_
  refine runs_loop ?_
  have hinv : ∃ (pre rest : List Report) (best : Int), l = pre ++ rest ∧ (l.foldl (closeStep acc) (-1) = rest.foldl (closeStep acc) best) ∧ Sat B ⟨Tryz.f87.ntmps, [(0, .sl (l.map Report.av)), (1, .int .i64 acc), (5, .int .i64 best), (6, .int .i64 ((pre.length : Nat) : Int))], []⟩ ac wd := ⟨[], l, (-1), rfl, rfl, hS.sel [] [0, 1, 5, 6] (by kernel_rfl)⟩
  clear hS
  obtain ⟨pre, rest, best, hl, hr, hS⟩ := hinv
  induction rest generalizing pre best ac wd with
  | nil =>
    refine runs_seq ?_
    refine runs_seq ?_
    refine reg [(2, .is ((l.length : Nat) : Int)), (3, .dec false)] [0, 1, 5, 6, 10] hG hS (env := [(0, .sl (l.map Report.av)), (1, .int .i64 acc), (5, .int .i64 best), (6, .int .i64 ((pre.length : Nat) : Int)), (10, .bool false)]) (own := []) (obs := [((l.map Report.av).length : Int) = ((l.length : Nat) : Int), decide (((pre.length : Nat) : Int) < ((l.length : Nat) : Int)) = false]) (by kernel_rfl) (⟨len_map, (lt_no hl)⟩) fun ac wd hS => ?_
    refine cond_no hS (c := false) (by kernel_rfl) rfl ?_
    refine runs_exit (by rfl) ?_
    refine runs_seq ?_
    refine reg [] [4] hG hS (env := [(4, .int .i64 best)]) (own := []) (obs := []) (by kernel_rfl) (trivial) fun ac wd hS => ?_
    rw [show (.int .i64 (closingI l acc) : AV) = .int .i64 best from by simp only [closingI, hr, List.foldl_nil]]
    exact retz Tryz.func87 rfl hB hBd hS (by kernel_rfl) rfl
  | cons x rest ihx =>
    refine runs_seq ?_
    refine runs_seq ?_
    refine reg [(2, .is ((l.length : Nat) : Int)), (3, .dec true)] [0, 1, 5, 6, 10] hG hS (env := [(0, .sl (l.map Report.av)), (1, .int .i64 acc), (5, .int .i64 best), (6, .int .i64 ((pre.length : Nat) : Int)), (10, .bool true)]) (own := []) (obs := [((l.map Report.av).length : Int) = ((l.length : Nat) : Int), decide (((pre.length : Nat) : Int) < ((l.length : Nat) : Int)) = true]) (by kernel_rfl) (⟨len_map, (lt_yes hl)⟩) fun ac wd hS => ?_
    refine cond_yes hS (c := true) (by kernel_rfl) rfl ?_
    refine runs_skip ?_
    refine runs_seq ?_
    refine runs_block ?_
    refine runs_seq ?_
    rcases Bool.eq_false_or_eq_true ((x.Account == acc)) with hb1 | hb1
    · skip
      rcases Bool.eq_false_or_eq_true (((U8.i x.Kind) == 7)) with hb2 | hb2
      · skip
        rcases Bool.eq_false_or_eq_true (decide (best < 0)) with hb3 | hb3
        · skip
          refine reg [(2, .av (Report.av x)), (7, .dec true), (10, .av (Report.av x)), (15, .dec true), (18, .dec true)] [0, 1, 5, 6, 40] hG hS (env := [(0, .sl (l.map Report.av)), (1, .int .i64 acc), (5, .int .i64 best), (6, .int .i64 ((pre.length : Nat) : Int)), (40, .bool true)]) (own := []) (obs := [0 ≤ (((pre.length : Nat) : Int) : Int) ∧ (l.map Report.av : List AV)[(((pre.length : Nat) : Int) : Int).toNat]? = some (Report.av x), (x.Account == acc) = true, 0 ≤ (((pre.length : Nat) : Int) : Int) ∧ (l.map Report.av : List AV)[(((pre.length : Nat) : Int) : Int).toNat]? = some (Report.av x), ((U8.i x.Kind) == 7) = true, decide (best < 0) = true]) (by kernel_rfl) (⟨(idx_ok hl), hb1, (idx_ok hl), hb2, hb3⟩) fun ac wd hS => ?_
          refine cond_yes hS (c := true) (by kernel_rfl) rfl ?_
          refine reg [(2, .av (Report.av x))] [0, 1, 5, 6] hG hS (env := [(0, .sl (l.map Report.av)), (1, .int .i64 acc), (5, .int .i64 x.About), (6, .int .i64 ((pre.length : Nat) : Int))]) (own := []) (obs := [0 ≤ (((pre.length : Nat) : Int) : Int) ∧ (l.map Report.av : List AV)[(((pre.length : Nat) : Int) : Int).toNat]? = some (Report.av x)]) (by kernel_rfl) ((idx_ok hl)) fun ac wd hS => ?_
          refine runs_inBlock ?_
          refine reg [(1, .is (((pre ++ [x]).length : Nat) : Int))] [0, 1, 5, 6] hG hS (env := [(0, .sl (l.map Report.av)), (1, .int .i64 acc), (5, .int .i64 x.About), (6, .int .i64 (((pre ++ [x]).length : Nat) : Int))]) (own := []) (obs := [IntKind.i64.wrap (((pre.length : Nat) : Int) + 1) = (((pre ++ [x]).length : Nat) : Int)]) (by kernel_rfl) ((next_len hl hn)) fun ac wd hS => ?_
          refine runs_inLoop ?_
          exact ihx _ _ (pre ++ [x]) x.About (next_eq hl) (by rw [hr]; simp only [List.foldl_cons, closeStep, hb1, hb2, hb3, Bool.and_true, Bool.true_and, Bool.and_false, Bool.false_and, Bool.or_true, Bool.true_or, Bool.or_false, Bool.false_or, Bool.not_true, Bool.not_false, Bool.false_eq_true, if_true, if_false]) (hS.sel [] [0, 1, 5, 6] (by kernel_rfl))
        · skip
          rcases Bool.eq_false_or_eq_true (decide (x.About < best)) with hb4 | hb4
          · skip
            refine reg [(2, .av (Report.av x)), (7, .dec true), (10, .av (Report.av x)), (15, .dec true), (18, .dec false), (21, .av (Report.av x)), (27, .dec true)] [0, 1, 5, 6, 40] hG hS (env := [(0, .sl (l.map Report.av)), (1, .int .i64 acc), (5, .int .i64 best), (6, .int .i64 ((pre.length : Nat) : Int)), (40, .bool true)]) (own := []) (obs := [0 ≤ (((pre.length : Nat) : Int) : Int) ∧ (l.map Report.av : List AV)[(((pre.length : Nat) : Int) : Int).toNat]? = some (Report.av x), (x.Account == acc) = true, 0 ≤ (((pre.length : Nat) : Int) : Int) ∧ (l.map Report.av : List AV)[(((pre.length : Nat) : Int) : Int).toNat]? = some (Report.av x), ((U8.i x.Kind) == 7) = true, decide (best < 0) = false, 0 ≤ (((pre.length : Nat) : Int) : Int) ∧ (l.map Report.av : List AV)[(((pre.length : Nat) : Int) : Int).toNat]? = some (Report.av x), decide (x.About < best) = true]) (by kernel_rfl) (⟨(idx_ok hl), hb1, (idx_ok hl), hb2, hb3, (idx_ok hl), hb4⟩) fun ac wd hS => ?_
            refine cond_yes hS (c := true) (by kernel_rfl) rfl ?_
            refine reg [(2, .av (Report.av x))] [0, 1, 5, 6] hG hS (env := [(0, .sl (l.map Report.av)), (1, .int .i64 acc), (5, .int .i64 x.About), (6, .int .i64 ((pre.length : Nat) : Int))]) (own := []) (obs := [0 ≤ (((pre.length : Nat) : Int) : Int) ∧ (l.map Report.av : List AV)[(((pre.length : Nat) : Int) : Int).toNat]? = some (Report.av x)]) (by kernel_rfl) ((idx_ok hl)) fun ac wd hS => ?_
            refine runs_inBlock ?_
            refine reg [(1, .is (((pre ++ [x]).length : Nat) : Int))] [0, 1, 5, 6] hG hS (env := [(0, .sl (l.map Report.av)), (1, .int .i64 acc), (5, .int .i64 x.About), (6, .int .i64 (((pre ++ [x]).length : Nat) : Int))]) (own := []) (obs := [IntKind.i64.wrap (((pre.length : Nat) : Int) + 1) = (((pre ++ [x]).length : Nat) : Int)]) (by kernel_rfl) ((next_len hl hn)) fun ac wd hS => ?_
            refine runs_inLoop ?_
            exact ihx _ _ (pre ++ [x]) x.About (next_eq hl) (by rw [hr]; simp only [List.foldl_cons, closeStep, hb1, hb2, hb3, hb4, Bool.and_true, Bool.true_and, Bool.and_false, Bool.false_and, Bool.or_true, Bool.true_or, Bool.or_false, Bool.false_or, Bool.not_true, Bool.not_false, Bool.false_eq_true, if_true, if_false]) (hS.sel [] [0, 1, 5, 6] (by kernel_rfl))
          · skip
            refine reg [(2, .av (Report.av x)), (7, .dec true), (10, .av (Report.av x)), (15, .dec true), (18, .dec false), (21, .av (Report.av x)), (27, .dec false)] [0, 1, 5, 6, 40] hG hS (env := [(0, .sl (l.map Report.av)), (1, .int .i64 acc), (5, .int .i64 best), (6, .int .i64 ((pre.length : Nat) : Int)), (40, .bool false)]) (own := []) (obs := [0 ≤ (((pre.length : Nat) : Int) : Int) ∧ (l.map Report.av : List AV)[(((pre.length : Nat) : Int) : Int).toNat]? = some (Report.av x), (x.Account == acc) = true, 0 ≤ (((pre.length : Nat) : Int) : Int) ∧ (l.map Report.av : List AV)[(((pre.length : Nat) : Int) : Int).toNat]? = some (Report.av x), ((U8.i x.Kind) == 7) = true, decide (best < 0) = false, 0 ≤ (((pre.length : Nat) : Int) : Int) ∧ (l.map Report.av : List AV)[(((pre.length : Nat) : Int) : Int).toNat]? = some (Report.av x), decide (x.About < best) = false]) (by kernel_rfl) (⟨(idx_ok hl), hb1, (idx_ok hl), hb2, hb3, (idx_ok hl), hb4⟩) fun ac wd hS => ?_
            refine cond_no hS (c := false) (by kernel_rfl) rfl ?_
            refine runs_skip ?_
            refine runs_inBlock ?_
            refine reg [(1, .is (((pre ++ [x]).length : Nat) : Int))] [0, 1, 5, 6] hG hS (env := [(0, .sl (l.map Report.av)), (1, .int .i64 acc), (5, .int .i64 best), (6, .int .i64 (((pre ++ [x]).length : Nat) : Int))]) (own := []) (obs := [IntKind.i64.wrap (((pre.length : Nat) : Int) + 1) = (((pre ++ [x]).length : Nat) : Int)]) (by kernel_rfl) ((next_len hl hn)) fun ac wd hS => ?_
            refine runs_inLoop ?_
            exact ihx _ _ (pre ++ [x]) best (next_eq hl) (by rw [hr]; simp only [List.foldl_cons, closeStep, hb1, hb2, hb3, hb4, Bool.and_true, Bool.true_and, Bool.and_false, Bool.false_and, Bool.or_true, Bool.true_or, Bool.or_false, Bool.false_or, Bool.not_true, Bool.not_false, Bool.false_eq_true, if_true, if_false]) (hS.sel [] [0, 1, 5, 6] (by kernel_rfl))
      · skip
        refine reg [(2, .av (Report.av x)), (7, .dec true), (10, .av (Report.av x)), (15, .dec false)] [0, 1, 5, 6, 40] hG hS (env := [(0, .sl (l.map Report.av)), (1, .int .i64 acc), (5, .int .i64 best), (6, .int .i64 ((pre.length : Nat) : Int)), (40, .bool false)]) (own := []) (obs := [0 ≤ (((pre.length : Nat) : Int) : Int) ∧ (l.map Report.av : List AV)[(((pre.length : Nat) : Int) : Int).toNat]? = some (Report.av x), (x.Account == acc) = true, 0 ≤ (((pre.length : Nat) : Int) : Int) ∧ (l.map Report.av : List AV)[(((pre.length : Nat) : Int) : Int).toNat]? = some (Report.av x), ((U8.i x.Kind) == 7) = false]) (by kernel_rfl) (⟨(idx_ok hl), hb1, (idx_ok hl), hb2⟩) fun ac wd hS => ?_
        refine cond_no hS (c := false) (by kernel_rfl) rfl ?_
        refine runs_skip ?_
        refine runs_inBlock ?_
        refine reg [(1, .is (((pre ++ [x]).length : Nat) : Int))] [0, 1, 5, 6] hG hS (env := [(0, .sl (l.map Report.av)), (1, .int .i64 acc), (5, .int .i64 best), (6, .int .i64 (((pre ++ [x]).length : Nat) : Int))]) (own := []) (obs := [IntKind.i64.wrap (((pre.length : Nat) : Int) + 1) = (((pre ++ [x]).length : Nat) : Int)]) (by kernel_rfl) ((next_len hl hn)) fun ac wd hS => ?_
        refine runs_inLoop ?_
        exact ihx _ _ (pre ++ [x]) best (next_eq hl) (by rw [hr]; simp only [List.foldl_cons, closeStep, hb1, hb2, Bool.and_true, Bool.true_and, Bool.and_false, Bool.false_and, Bool.or_true, Bool.true_or, Bool.or_false, Bool.false_or, Bool.not_true, Bool.not_false, Bool.false_eq_true, if_true, if_false]) (hS.sel [] [0, 1, 5, 6] (by kernel_rfl))
    · skip
      refine reg [(2, .av (Report.av x)), (7, .dec false)] [0, 1, 5, 6, 40] hG hS (env := [(0, .sl (l.map Report.av)), (1, .int .i64 acc), (5, .int .i64 best), (6, .int .i64 ((pre.length : Nat) : Int)), (40, .bool false)]) (own := []) (obs := [0 ≤ (((pre.length : Nat) : Int) : Int) ∧ (l.map Report.av : List AV)[(((pre.length : Nat) : Int) : Int).toNat]? = some (Report.av x), (x.Account == acc) = false]) (by kernel_rfl) (⟨(idx_ok hl), hb1⟩) fun ac wd hS => ?_
      refine cond_no hS (c := false) (by kernel_rfl) rfl ?_
      refine runs_skip ?_
      refine runs_inBlock ?_
      refine reg [(1, .is (((pre ++ [x]).length : Nat) : Int))] [0, 1, 5, 6] hG hS (env := [(0, .sl (l.map Report.av)), (1, .int .i64 acc), (5, .int .i64 best), (6, .int .i64 (((pre ++ [x]).length : Nat) : Int))]) (own := []) (obs := [IntKind.i64.wrap (((pre.length : Nat) : Int) + 1) = (((pre ++ [x]).length : Nat) : Int)]) (by kernel_rfl) ((next_len hl hn)) fun ac wd hS => ?_
      refine runs_inLoop ?_
      exact ihx _ _ (pre ++ [x]) best (next_eq hl) (by rw [hr]; simp only [List.foldl_cons, closeStep, hb1, Bool.and_true, Bool.true_and, Bool.and_false, Bool.false_and, Bool.or_true, Bool.true_or, Bool.or_false, Bool.false_or, Bool.not_true, Bool.not_false, Bool.false_eq_true, if_true, if_false]) (hS.sel [] [0, 1, 5, 6] (by kernel_rfl))
theorem asked_ok (c : Code) (homes : List Home) (l : List Report) (hc1 : c.Laws.length ≤ 65536) (hc2 : c.Stills.length ≤ 65536) (hh : homes.length ≤ 65536) (hn : l.length ≤ 65536) : CallA Tryz.prog GT 45 [Code.av c, .sl (homes.map Home.av), .sl (l.map Report.av)] (.int .i64 (askedI c homes l)) := by
  refine callA_of Tryz.func45 rfl (by simp [Tryz.f45]) rfl fun B ac hB hBd hG hS => ?_
  refine runs_seq ?_
  refine reg [] [1, 2, 3] hG hS (env := [(1, .sl (homes.map Home.av)), (2, .sl (l.map Report.av)), (3, .box 0 0)]) (own := [.box none 25 [.sl (c.Laws.map Law.av), .sl (c.Stills.map Still.av)]]) (obs := []) (by kernel_rfl) (trivial) fun ac wd hS => ?_
  refine runs_seq ?_
  refine runs_seq ?_
  refine reg [(2, .av (.int .i64 (checkRefI c homes)))] [2, 7] hG hS (env := [(2, .sl (l.map Report.av)), (7, .int .i64 (checkRefI c homes))]) (own := [.box none 25 [.sl (c.Laws.map Law.av), .sl (c.Stills.map Still.av)]]) (obs := [CallA Tryz.prog GT 20 [Code.av c, .sl (homes.map Home.av)] (.int .i64 (checkRefI c homes))]) (by kernel_rfl) ((checkRef_ok _ _ hc1 hc2 hh)) fun ac wd hS => ?_
  refine runs_seq ?_
  rcases Bool.eq_false_or_eq_true (((checkRefI c homes) != 0)) with hb1 | hb1
  · skip
    refine reg [(1, .dec true)] [2, 7, 12] hG hS (env := [(2, .sl (l.map Report.av)), (7, .int .i64 (checkRefI c homes)), (12, .bool true)]) (own := [.box none 25 [.sl (c.Laws.map Law.av), .sl (c.Stills.map Still.av)]]) (obs := [((checkRefI c homes) != 0) = true]) (by kernel_rfl) (hb1) fun ac wd hS => ?_
    refine cond_yes hS (c := true) (by kernel_rfl) rfl ?_
    refine runs_seq ?_
    refine reg [] [6] hG hS (env := [(6, .int .i64 (checkRefI c homes))]) (own := [.box none 25 [.sl (c.Laws.map Law.av), .sl (c.Stills.map Still.av)]]) (obs := []) (by kernel_rfl) (trivial) fun ac wd hS => ?_
    rw [show (.int .i64 (askedI c homes l) : AV) = .int .i64 (checkRefI c homes) from by simp only [askedI, hb1, Bool.false_eq_true, if_true, if_false]]
    exact retz Tryz.func45 rfl hB hBd hS (by kernel_rfl) rfl
  · skip
    refine reg [(1, .dec false)] [2, 7, 12] hG hS (env := [(2, .sl (l.map Report.av)), (7, .int .i64 (checkRefI c homes)), (12, .bool false)]) (own := [.box none 25 [.sl (c.Laws.map Law.av), .sl (c.Stills.map Still.av)]]) (obs := [((checkRefI c homes) != 0) = false]) (by kernel_rfl) (hb1) fun ac wd hS => ?_
    refine cond_no hS (c := false) (by kernel_rfl) rfl ?_
    refine runs_skip ?_
    refine runs_seq ?_
    refine reg [(1, .av (.int .i64 (checkR l)))] [6] hG hS (env := [(6, .int .i64 (checkR l))]) (own := [.box none 25 [.sl (c.Laws.map Law.av), .sl (c.Stills.map Still.av)]]) (obs := [CallA Tryz.prog GT 75 [.sl (l.map Report.av)] (.int .i64 (checkR l))]) (by kernel_rfl) ((checkR_ok _ hn)) fun ac wd hS => ?_
    rw [show (.int .i64 (askedI c homes l) : AV) = .int .i64 (checkR l) from by simp only [askedI, hb1, Bool.false_eq_true, if_true, if_false]]
    exact retz Tryz.func45 rfl hB hBd hS (by kernel_rfl) rfl
def lastOfLaw (facts : List Report) (r : Report) (x : Law) : Int :=
  if U8.i x.Base == 1 then IntKind.i64.wrap (r.About + x.Keep) else if U8.i x.Base == 2 then IntKind.i64.wrap (r.Made + x.Keep) else
  if decide (closingI facts r.Account < 0) then 300000 else IntKind.i64.wrap (closingI facts r.Account + x.Keep)
def lastGo (home : Int) (facts : List Report) (r : Report) : List Law → AV
  | [] => .tup [.int .i64 0, .bool false]
  | x :: l => if (x.Land != home) || (U8.i x.Kind != U8.i r.Kind) then lastGo home facts r l else .tup [.int .i64 (lastOfLaw facts r x), .bool true]
theorem lastRef_ok (c : Code) (homes : List Home) (facts : List Report) (r : Report) (hc1 : c.Laws.length ≤ 65536) (hh : homes.length ≤ 65536) (hf : facts.length ≤ 65536) : CallA Tryz.prog GT 49 [Code.av c, .sl (homes.map Home.av), .sl (facts.map Report.av), Report.av r] (lastGo (landI homes r.Account) facts r c.Laws) := by
  refine callA_of Tryz.func49 rfl (by simp [Tryz.f49]) rfl fun B ac hB hBd hG hS => ?_
  refine runs_seq ?_
  refine reg [] [1, 2, 4, 7] hG hS (env := [(1, .sl (homes.map Home.av)), (2, .sl (facts.map Report.av)), (4, .box 0 0), (7, .box 1 0)]) (own := [.box none 25 [.sl (c.Laws.map Law.av), .sl (c.Stills.map Still.av)], .box none 73 [.int .i64 r.Id, .int .i64 r.Source, .int .i64 r.Account, .int .i64 r.Made, .int .i64 r.About, .int .u8 (U8.i r.Kind), .int .i64 r.Cents, .int .i64 r.Of]]) (obs := []) (by kernel_rfl) (trivial) fun ac wd hS => ?_
  refine runs_seq ?_
  refine reg [(3, .av (.int .i64 (landI homes r.Account)))] [2, 4, 7, 10] hG hS (env := [(2, .sl (facts.map Report.av)), (4, .box 0 0), (7, .box 1 0), (10, .int .i64 (landI homes r.Account))]) (own := [.box none 25 [.sl (c.Laws.map Law.av), .sl (c.Stills.map Still.av)], .box none 73 [.int .i64 r.Id, .int .i64 r.Source, .int .i64 r.Account, .int .i64 r.Made, .int .i64 r.About, .int .u8 (U8.i r.Kind), .int .i64 r.Cents, .int .i64 r.Of]]) (obs := [CallA Tryz.prog GT 74 [.sl (homes.map Home.av), .int .i64 r.Account] (.int .i64 (landI homes r.Account))]) (by kernel_rfl) ((landRef_ok _ _ hh)) fun ac wd hS => ?_
  refine runs_seq ?_
  refine runs_seq ?_
  refine reg [] [2, 4, 7, 10, 11] hG hS (env := [(2, .sl (facts.map Report.av)), (4, .box 0 0), (7, .box 1 0), (10, .int .i64 (landI homes r.Account)), (11, .int .i64 0)]) (own := [.box none 25 [.sl (c.Laws.map Law.av), .sl (c.Stills.map Still.av)], .box none 73 [.int .i64 r.Id, .int .i64 r.Source, .int .i64 r.Account, .int .i64 r.Made, .int .i64 r.About, .int .u8 (U8.i r.Kind), .int .i64 r.Cents, .int .i64 r.Of]]) (obs := []) (by kernel_rfl) (trivial) fun ac wd hS => ?_
  refine runs_block ?_
  refine runs_loop ?_
  have hinv : ∃ (pre rest : List Law), c.Laws = pre ++ rest ∧ (lastGo (landI homes r.Account) facts r c.Laws = lastGo (landI homes r.Account) facts r rest) ∧ Sat B ⟨Tryz.f49.ntmps, [(2, .sl (facts.map Report.av)), (4, .box 0 0), (7, .box 1 0), (10, .int .i64 (landI homes r.Account)), (11, .int .i64 ((pre.length : Nat) : Int))], [.box none 25 [.sl (c.Laws.map Law.av), .sl (c.Stills.map Still.av)], .box none 73 [.int .i64 r.Id, .int .i64 r.Source, .int .i64 r.Account, .int .i64 r.Made, .int .i64 r.About, .int .u8 (U8.i r.Kind), .int .i64 r.Cents, .int .i64 r.Of]]⟩ ac wd := ⟨[], c.Laws, rfl, rfl, hS.sel [0, 1] [2, 4, 7, 10, 11] (by kernel_rfl)⟩
  clear hS
  obtain ⟨pre, rest, hl, hr, hS⟩ := hinv
  induction rest generalizing pre  ac wd with
  | nil =>
    refine runs_seq ?_
    refine runs_seq ?_
    refine reg [(3, .is ((c.Laws.length : Nat) : Int)), (4, .dec false)] [2, 4, 7, 10, 11, 22] hG hS (env := [(2, .sl (facts.map Report.av)), (4, .box 0 0), (7, .box 1 0), (10, .int .i64 (landI homes r.Account)), (11, .int .i64 ((pre.length : Nat) : Int)), (22, .bool false)]) (own := [.box none 25 [.sl (c.Laws.map Law.av), .sl (c.Stills.map Still.av)], .box none 73 [.int .i64 r.Id, .int .i64 r.Source, .int .i64 r.Account, .int .i64 r.Made, .int .i64 r.About, .int .u8 (U8.i r.Kind), .int .i64 r.Cents, .int .i64 r.Of]]) (obs := [((c.Laws.map Law.av).length : Int) = ((c.Laws.length : Nat) : Int), decide (((pre.length : Nat) : Int) < ((c.Laws.length : Nat) : Int)) = false]) (by kernel_rfl) (⟨len_map, (lt_no hl)⟩) fun ac wd hS => ?_
    refine cond_no hS (c := false) (by kernel_rfl) rfl ?_
    refine runs_exit (by rfl) ?_
    refine runs_seq ?_
    refine reg [] [8, 9] hG hS (env := [(8, .int .i64 0), (9, .bool false)]) (own := [.box none 25 [.sl (c.Laws.map Law.av), .sl (c.Stills.map Still.av)], .box none 73 [.int .i64 r.Id, .int .i64 r.Source, .int .i64 r.Account, .int .i64 r.Made, .int .i64 r.About, .int .u8 (U8.i r.Kind), .int .i64 r.Cents, .int .i64 r.Of]]) (obs := []) (by kernel_rfl) (trivial) fun ac wd hS => ?_
    rw [hr]; rw [show (lastGo (landI homes r.Account) facts r [] : AV) = .tup [.int .i64 0, .bool false] from rfl]
    exact retz Tryz.func49 rfl hB hBd hS (by kernel_rfl) rfl
  | cons x rest ihx =>
    refine runs_seq ?_
    refine runs_seq ?_
    refine reg [(3, .is ((c.Laws.length : Nat) : Int)), (4, .dec true)] [2, 4, 7, 10, 11, 22] hG hS (env := [(2, .sl (facts.map Report.av)), (4, .box 0 0), (7, .box 1 0), (10, .int .i64 (landI homes r.Account)), (11, .int .i64 ((pre.length : Nat) : Int)), (22, .bool true)]) (own := [.box none 25 [.sl (c.Laws.map Law.av), .sl (c.Stills.map Still.av)], .box none 73 [.int .i64 r.Id, .int .i64 r.Source, .int .i64 r.Account, .int .i64 r.Made, .int .i64 r.About, .int .u8 (U8.i r.Kind), .int .i64 r.Cents, .int .i64 r.Of]]) (obs := [((c.Laws.map Law.av).length : Int) = ((c.Laws.length : Nat) : Int), decide (((pre.length : Nat) : Int) < ((c.Laws.length : Nat) : Int)) = true]) (by kernel_rfl) (⟨len_map, (lt_yes hl)⟩) fun ac wd hS => ?_
    refine cond_yes hS (c := true) (by kernel_rfl) rfl ?_
    refine runs_skip ?_
    refine runs_seq ?_
    refine runs_block ?_
    refine runs_seq ?_
    refine reg [(3, .av (Law.av x))] [2, 4, 7, 10, 11, 12] hG hS (env := [(2, .sl (facts.map Report.av)), (4, .box 0 0), (7, .box 1 0), (10, .int .i64 (landI homes r.Account)), (11, .int .i64 ((pre.length : Nat) : Int)), (12, .box 2 0)]) (own := [.box none 25 [.sl (c.Laws.map Law.av), .sl (c.Stills.map Still.av)], .box none 73 [.int .i64 r.Id, .int .i64 r.Source, .int .i64 r.Account, .int .i64 r.Made, .int .i64 r.About, .int .u8 (U8.i r.Kind), .int .i64 r.Cents, .int .i64 r.Of], .box none 66 [.int .i64 x.Land, .int .u8 (U8.i x.Kind), .int .u8 (U8.i x.Base), .int .i64 x.Keep]]) (obs := [0 ≤ (((pre.length : Nat) : Int) : Int) ∧ (c.Laws.map Law.av : List AV)[(((pre.length : Nat) : Int) : Int).toNat]? = some (Law.av x)]) (by kernel_rfl) ((idx_ok hl)) fun ac wd hS => ?_
    refine runs_seq ?_
    refine runs_seq ?_
    rcases Bool.eq_false_or_eq_true ((x.Land != (landI homes r.Account))) with hb1 | hb1
    · skip
      refine reg [(4, .dec true)] [2, 4, 7, 10, 11, 12, 40] hG hS (env := [(2, .sl (facts.map Report.av)), (4, .box 0 0), (7, .box 1 0), (10, .int .i64 (landI homes r.Account)), (11, .int .i64 ((pre.length : Nat) : Int)), (12, .box 2 0), (40, .bool true)]) (own := [.box none 25 [.sl (c.Laws.map Law.av), .sl (c.Stills.map Still.av)], .box none 73 [.int .i64 r.Id, .int .i64 r.Source, .int .i64 r.Account, .int .i64 r.Made, .int .i64 r.About, .int .u8 (U8.i r.Kind), .int .i64 r.Cents, .int .i64 r.Of], .box none 66 [.int .i64 x.Land, .int .u8 (U8.i x.Kind), .int .u8 (U8.i x.Base), .int .i64 x.Keep]]) (obs := [(x.Land != (landI homes r.Account)) = true]) (by kernel_rfl) (hb1) fun ac wd hS => ?_
      refine cond_yes hS (c := true) (by kernel_rfl) rfl ?_
      refine runs_exit (by rfl) ?_
      refine reg [(1, .is (((pre ++ [x]).length : Nat) : Int))] [2, 4, 7, 10, 11] hG hS (env := [(2, .sl (facts.map Report.av)), (4, .box 0 0), (7, .box 1 0), (10, .int .i64 (landI homes r.Account)), (11, .int .i64 (((pre ++ [x]).length : Nat) : Int))]) (own := [.box none 25 [.sl (c.Laws.map Law.av), .sl (c.Stills.map Still.av)], .box none 73 [.int .i64 r.Id, .int .i64 r.Source, .int .i64 r.Account, .int .i64 r.Made, .int .i64 r.About, .int .u8 (U8.i r.Kind), .int .i64 r.Cents, .int .i64 r.Of], .box none 66 [.int .i64 x.Land, .int .u8 (U8.i x.Kind), .int .u8 (U8.i x.Base), .int .i64 x.Keep]]) (obs := [IntKind.i64.wrap (((pre.length : Nat) : Int) + 1) = (((pre ++ [x]).length : Nat) : Int)]) (by kernel_rfl) ((next_len hl hc1)) fun ac wd hS => ?_
      refine runs_inLoop ?_
      exact ihx _ _ (pre ++ [x])  (next_eq hl) (by rw [hr]; simp only [lastGo, hb1, Bool.and_true, Bool.true_and, Bool.and_false, Bool.false_and, Bool.or_true, Bool.true_or, Bool.or_false, Bool.false_or, Bool.not_true, Bool.not_false, if_true]) (hS.sel [0, 1] [2, 4, 7, 10, 11] (by kernel_rfl))
    · skip
      rcases Bool.eq_false_or_eq_true (((U8.i x.Kind) != (U8.i r.Kind))) with hb2 | hb2
      · skip
        refine reg [(4, .dec false), (10, .dec true)] [2, 4, 7, 10, 11, 12, 40] hG hS (env := [(2, .sl (facts.map Report.av)), (4, .box 0 0), (7, .box 1 0), (10, .int .i64 (landI homes r.Account)), (11, .int .i64 ((pre.length : Nat) : Int)), (12, .box 2 0), (40, .bool true)]) (own := [.box none 25 [.sl (c.Laws.map Law.av), .sl (c.Stills.map Still.av)], .box none 73 [.int .i64 r.Id, .int .i64 r.Source, .int .i64 r.Account, .int .i64 r.Made, .int .i64 r.About, .int .u8 (U8.i r.Kind), .int .i64 r.Cents, .int .i64 r.Of], .box none 66 [.int .i64 x.Land, .int .u8 (U8.i x.Kind), .int .u8 (U8.i x.Base), .int .i64 x.Keep]]) (obs := [(x.Land != (landI homes r.Account)) = false, ((U8.i x.Kind) != (U8.i r.Kind)) = true]) (by kernel_rfl) (⟨hb1, hb2⟩) fun ac wd hS => ?_
        refine cond_yes hS (c := true) (by kernel_rfl) rfl ?_
        refine runs_exit (by rfl) ?_
        refine reg [(1, .is (((pre ++ [x]).length : Nat) : Int))] [2, 4, 7, 10, 11] hG hS (env := [(2, .sl (facts.map Report.av)), (4, .box 0 0), (7, .box 1 0), (10, .int .i64 (landI homes r.Account)), (11, .int .i64 (((pre ++ [x]).length : Nat) : Int))]) (own := [.box none 25 [.sl (c.Laws.map Law.av), .sl (c.Stills.map Still.av)], .box none 73 [.int .i64 r.Id, .int .i64 r.Source, .int .i64 r.Account, .int .i64 r.Made, .int .i64 r.About, .int .u8 (U8.i r.Kind), .int .i64 r.Cents, .int .i64 r.Of], .box none 66 [.int .i64 x.Land, .int .u8 (U8.i x.Kind), .int .u8 (U8.i x.Base), .int .i64 x.Keep]]) (obs := [IntKind.i64.wrap (((pre.length : Nat) : Int) + 1) = (((pre ++ [x]).length : Nat) : Int)]) (by kernel_rfl) ((next_len hl hc1)) fun ac wd hS => ?_
        refine runs_inLoop ?_
        exact ihx _ _ (pre ++ [x])  (next_eq hl) (by rw [hr]; simp only [lastGo, hb1, hb2, Bool.and_true, Bool.true_and, Bool.and_false, Bool.false_and, Bool.or_true, Bool.true_or, Bool.or_false, Bool.false_or, Bool.not_true, Bool.not_false, if_true]) (hS.sel [0, 1] [2, 4, 7, 10, 11] (by kernel_rfl))
      · skip
        refine reg [(4, .dec false), (10, .dec false)] [2, 4, 7, 10, 11, 12, 40] hG hS (env := [(2, .sl (facts.map Report.av)), (4, .box 0 0), (7, .box 1 0), (10, .int .i64 (landI homes r.Account)), (11, .int .i64 ((pre.length : Nat) : Int)), (12, .box 2 0), (40, .bool false)]) (own := [.box none 25 [.sl (c.Laws.map Law.av), .sl (c.Stills.map Still.av)], .box none 73 [.int .i64 r.Id, .int .i64 r.Source, .int .i64 r.Account, .int .i64 r.Made, .int .i64 r.About, .int .u8 (U8.i r.Kind), .int .i64 r.Cents, .int .i64 r.Of], .box none 66 [.int .i64 x.Land, .int .u8 (U8.i x.Kind), .int .u8 (U8.i x.Base), .int .i64 x.Keep]]) (obs := [(x.Land != (landI homes r.Account)) = false, ((U8.i x.Kind) != (U8.i r.Kind)) = false]) (by kernel_rfl) (⟨hb1, hb2⟩) fun ac wd hS => ?_
        refine cond_no hS (c := false) (by kernel_rfl) rfl ?_
        refine runs_skip ?_
        refine runs_seq ?_
        refine runs_seq ?_
        rcases Bool.eq_false_or_eq_true (((U8.i x.Base) == 1)) with hb3 | hb3
        · skip
          refine reg [(2, .dec true)] [2, 7, 12, 43] hG hS (env := [(2, .sl (facts.map Report.av)), (7, .box 1 0), (12, .box 2 0), (43, .bool true)]) (own := [.box none 25 [.sl (c.Laws.map Law.av), .sl (c.Stills.map Still.av)], .box none 73 [.int .i64 r.Id, .int .i64 r.Source, .int .i64 r.Account, .int .i64 r.Made, .int .i64 r.About, .int .u8 (U8.i r.Kind), .int .i64 r.Cents, .int .i64 r.Of], .box none 66 [.int .i64 x.Land, .int .u8 (U8.i x.Kind), .int .u8 (U8.i x.Base), .int .i64 x.Keep]]) (obs := [((U8.i x.Base) == 1) = true]) (by kernel_rfl) (hb3) fun ac wd hS => ?_
          refine cond_yes hS (c := true) (by kernel_rfl) rfl ?_
          refine runs_seq ?_
          refine reg [] [8, 9] hG hS (env := [(8, .int .i64 (IntKind.i64.wrap (r.About + x.Keep))), (9, .bool true)]) (own := [.box none 25 [.sl (c.Laws.map Law.av), .sl (c.Stills.map Still.av)], .box none 73 [.int .i64 r.Id, .int .i64 r.Source, .int .i64 r.Account, .int .i64 r.Made, .int .i64 r.About, .int .u8 (U8.i r.Kind), .int .i64 r.Cents, .int .i64 r.Of], .box none 66 [.int .i64 x.Land, .int .u8 (U8.i x.Kind), .int .u8 (U8.i x.Base), .int .i64 x.Keep]]) (obs := []) (by kernel_rfl) (trivial) fun ac wd hS => ?_
          rw [hr]; rw [show (lastGo (landI homes r.Account) facts r (x :: rest) : AV) = .tup [.int .i64 (IntKind.i64.wrap (r.About + x.Keep)), .bool true] from by simp only [lastGo, lastOfLaw, hb1, hb2, hb3, Bool.and_true, Bool.true_and, Bool.and_false, Bool.false_and, Bool.or_true, Bool.true_or, Bool.or_false, Bool.false_or, Bool.not_true, Bool.not_false, if_true, if_false, Bool.false_eq_true]]
          exact retz Tryz.func49 rfl hB hBd hS (by kernel_rfl) rfl
        · skip
          refine reg [(2, .dec false)] [2, 7, 12, 43] hG hS (env := [(2, .sl (facts.map Report.av)), (7, .box 1 0), (12, .box 2 0), (43, .bool false)]) (own := [.box none 25 [.sl (c.Laws.map Law.av), .sl (c.Stills.map Still.av)], .box none 73 [.int .i64 r.Id, .int .i64 r.Source, .int .i64 r.Account, .int .i64 r.Made, .int .i64 r.About, .int .u8 (U8.i r.Kind), .int .i64 r.Cents, .int .i64 r.Of], .box none 66 [.int .i64 x.Land, .int .u8 (U8.i x.Kind), .int .u8 (U8.i x.Base), .int .i64 x.Keep]]) (obs := [((U8.i x.Base) == 1) = false]) (by kernel_rfl) (hb3) fun ac wd hS => ?_
          refine cond_no hS (c := false) (by kernel_rfl) rfl ?_
          refine runs_skip ?_
          refine runs_seq ?_
          refine runs_seq ?_
          rcases Bool.eq_false_or_eq_true (((U8.i x.Base) == 2)) with hb4 | hb4
          · skip
            refine reg [(2, .dec true)] [2, 7, 12, 51] hG hS (env := [(2, .sl (facts.map Report.av)), (7, .box 1 0), (12, .box 2 0), (51, .bool true)]) (own := [.box none 25 [.sl (c.Laws.map Law.av), .sl (c.Stills.map Still.av)], .box none 73 [.int .i64 r.Id, .int .i64 r.Source, .int .i64 r.Account, .int .i64 r.Made, .int .i64 r.About, .int .u8 (U8.i r.Kind), .int .i64 r.Cents, .int .i64 r.Of], .box none 66 [.int .i64 x.Land, .int .u8 (U8.i x.Kind), .int .u8 (U8.i x.Base), .int .i64 x.Keep]]) (obs := [((U8.i x.Base) == 2) = true]) (by kernel_rfl) (hb4) fun ac wd hS => ?_
            refine cond_yes hS (c := true) (by kernel_rfl) rfl ?_
            refine runs_seq ?_
            refine reg [] [8, 9] hG hS (env := [(8, .int .i64 (IntKind.i64.wrap (r.Made + x.Keep))), (9, .bool true)]) (own := [.box none 25 [.sl (c.Laws.map Law.av), .sl (c.Stills.map Still.av)], .box none 73 [.int .i64 r.Id, .int .i64 r.Source, .int .i64 r.Account, .int .i64 r.Made, .int .i64 r.About, .int .u8 (U8.i r.Kind), .int .i64 r.Cents, .int .i64 r.Of], .box none 66 [.int .i64 x.Land, .int .u8 (U8.i x.Kind), .int .u8 (U8.i x.Base), .int .i64 x.Keep]]) (obs := []) (by kernel_rfl) (trivial) fun ac wd hS => ?_
            rw [hr]; rw [show (lastGo (landI homes r.Account) facts r (x :: rest) : AV) = .tup [.int .i64 (IntKind.i64.wrap (r.Made + x.Keep)), .bool true] from by simp only [lastGo, lastOfLaw, hb1, hb2, hb3, hb4, Bool.and_true, Bool.true_and, Bool.and_false, Bool.false_and, Bool.or_true, Bool.true_or, Bool.or_false, Bool.false_or, Bool.not_true, Bool.not_false, if_true, if_false, Bool.false_eq_true]]
            exact retz Tryz.func49 rfl hB hBd hS (by kernel_rfl) rfl
          · skip
            refine reg [(2, .dec false)] [2, 7, 12, 51] hG hS (env := [(2, .sl (facts.map Report.av)), (7, .box 1 0), (12, .box 2 0), (51, .bool false)]) (own := [.box none 25 [.sl (c.Laws.map Law.av), .sl (c.Stills.map Still.av)], .box none 73 [.int .i64 r.Id, .int .i64 r.Source, .int .i64 r.Account, .int .i64 r.Made, .int .i64 r.About, .int .u8 (U8.i r.Kind), .int .i64 r.Cents, .int .i64 r.Of], .box none 66 [.int .i64 x.Land, .int .u8 (U8.i x.Kind), .int .u8 (U8.i x.Base), .int .i64 x.Keep]]) (obs := [((U8.i x.Base) == 2) = false]) (by kernel_rfl) (hb4) fun ac wd hS => ?_
            refine cond_no hS (c := false) (by kernel_rfl) rfl ?_
            refine runs_skip ?_
            refine runs_seq ?_
            refine reg [(3, .av (.int .i64 (closingI facts r.Account)))] [12, 13] hG hS (env := [(12, .box 2 0), (13, .int .i64 (closingI facts r.Account))]) (own := [.box none 25 [.sl (c.Laws.map Law.av), .sl (c.Stills.map Still.av)], .box none 73 [.int .i64 r.Id, .int .i64 r.Source, .int .i64 r.Account, .int .i64 r.Made, .int .i64 r.About, .int .u8 (U8.i r.Kind), .int .i64 r.Cents, .int .i64 r.Of], .box none 66 [.int .i64 x.Land, .int .u8 (U8.i x.Kind), .int .u8 (U8.i x.Base), .int .i64 x.Keep]]) (obs := [CallA Tryz.prog GT 87 [.sl (facts.map Report.av), .int .i64 r.Account] (.int .i64 (closingI facts r.Account))]) (by kernel_rfl) ((closing_ok _ _ hf)) fun ac wd hS => ?_
            refine runs_seq ?_
            refine runs_seq ?_
            rcases Bool.eq_false_or_eq_true (decide ((closingI facts r.Account) < 0)) with hb5 | hb5
            · skip
              refine reg [(1, .dec true)] [12, 13, 62] hG hS (env := [(12, .box 2 0), (13, .int .i64 (closingI facts r.Account)), (62, .bool true)]) (own := [.box none 25 [.sl (c.Laws.map Law.av), .sl (c.Stills.map Still.av)], .box none 73 [.int .i64 r.Id, .int .i64 r.Source, .int .i64 r.Account, .int .i64 r.Made, .int .i64 r.About, .int .u8 (U8.i r.Kind), .int .i64 r.Cents, .int .i64 r.Of], .box none 66 [.int .i64 x.Land, .int .u8 (U8.i x.Kind), .int .u8 (U8.i x.Base), .int .i64 x.Keep]]) (obs := [decide ((closingI facts r.Account) < 0) = true]) (by kernel_rfl) (hb5) fun ac wd hS => ?_
              refine cond_yes hS (c := true) (by kernel_rfl) rfl ?_
              refine runs_seq ?_
              refine reg [] [8, 9] hG hS (env := [(8, .int .i64 300000), (9, .bool true)]) (own := [.box none 25 [.sl (c.Laws.map Law.av), .sl (c.Stills.map Still.av)], .box none 73 [.int .i64 r.Id, .int .i64 r.Source, .int .i64 r.Account, .int .i64 r.Made, .int .i64 r.About, .int .u8 (U8.i r.Kind), .int .i64 r.Cents, .int .i64 r.Of], .box none 66 [.int .i64 x.Land, .int .u8 (U8.i x.Kind), .int .u8 (U8.i x.Base), .int .i64 x.Keep]]) (obs := []) (by kernel_rfl) (trivial) fun ac wd hS => ?_
              rw [hr]; rw [show (lastGo (landI homes r.Account) facts r (x :: rest) : AV) = .tup [.int .i64 300000, .bool true] from by simp only [lastGo, lastOfLaw, hb1, hb2, hb3, hb4, hb5, Bool.and_true, Bool.true_and, Bool.and_false, Bool.false_and, Bool.or_true, Bool.true_or, Bool.or_false, Bool.false_or, Bool.not_true, Bool.not_false, if_true, if_false, Bool.false_eq_true]]
              exact retz Tryz.func49 rfl hB hBd hS (by kernel_rfl) rfl
            · skip
              refine reg [(1, .dec false)] [12, 13, 62] hG hS (env := [(12, .box 2 0), (13, .int .i64 (closingI facts r.Account)), (62, .bool false)]) (own := [.box none 25 [.sl (c.Laws.map Law.av), .sl (c.Stills.map Still.av)], .box none 73 [.int .i64 r.Id, .int .i64 r.Source, .int .i64 r.Account, .int .i64 r.Made, .int .i64 r.About, .int .u8 (U8.i r.Kind), .int .i64 r.Cents, .int .i64 r.Of], .box none 66 [.int .i64 x.Land, .int .u8 (U8.i x.Kind), .int .u8 (U8.i x.Base), .int .i64 x.Keep]]) (obs := [decide ((closingI facts r.Account) < 0) = false]) (by kernel_rfl) (hb5) fun ac wd hS => ?_
              refine cond_no hS (c := false) (by kernel_rfl) rfl ?_
              refine runs_skip ?_
              refine runs_seq ?_
              refine reg [] [8, 9] hG hS (env := [(8, .int .i64 (IntKind.i64.wrap ((closingI facts r.Account) + x.Keep))), (9, .bool true)]) (own := [.box none 25 [.sl (c.Laws.map Law.av), .sl (c.Stills.map Still.av)], .box none 73 [.int .i64 r.Id, .int .i64 r.Source, .int .i64 r.Account, .int .i64 r.Made, .int .i64 r.About, .int .u8 (U8.i r.Kind), .int .i64 r.Cents, .int .i64 r.Of], .box none 66 [.int .i64 x.Land, .int .u8 (U8.i x.Kind), .int .u8 (U8.i x.Base), .int .i64 x.Keep]]) (obs := []) (by kernel_rfl) (trivial) fun ac wd hS => ?_
              rw [hr]; rw [show (lastGo (landI homes r.Account) facts r (x :: rest) : AV) = .tup [.int .i64 (IntKind.i64.wrap ((closingI facts r.Account) + x.Keep)), .bool true] from by simp only [lastGo, lastOfLaw, hb1, hb2, hb3, hb4, hb5, Bool.and_true, Bool.true_and, Bool.and_false, Bool.false_and, Bool.or_true, Bool.true_or, Bool.or_false, Bool.false_or, Bool.not_true, Bool.not_false, if_true, if_false, Bool.false_eq_true]]
              exact retz Tryz.func49 rfl hB hBd hS (by kernel_rfl) rfl
def insR (n : Int) : List Int → List Int → List Int
  | [], suf => n :: suf
  | y :: rp, suf => if n < y then insR n rp (y :: suf) else (y :: rp).reverse ++ n :: suf
def insL (l : List Int) (n : Int) : List Int := insR n l.reverse []
section
variable {n y : Int} {rp suf cur : List Int} {k : Nat}
theorem put_k (hk : k = (y :: rp).length) (hb : k ≤ 65536) : IntKind.i64.wrap (((k : Nat) : Int) - 1) = ((rp.length : Nat) : Int) := by
  subst hk; simp at hb; rw [wrap_i64 (by simp <;> omega) (by simp <;> omega)]; simp
theorem put_i1 (hk : k = rp.length) (hc : cur = rp.reverse ++ n :: suf) : 0 ≤ ((k : Nat) : Int) ∧ (((k : Nat) : Int)).toNat < (cur.map ia).length := by
  subst hk hc; simp <;> omega
theorem put_i2 (hk : k = (y :: rp).length) (hc : cur = (y :: rp).reverse ++ n :: suf) : 0 ≤ ((rp.length : Nat) : Int) ∧ (((rp.length : Nat) : Int)).toNat < (cur.map ia).length := by
  subst hk hc; simp <;> omega
theorem put_g1 (hk : k = rp.length) (hc : cur = rp.reverse ++ n :: suf) : (((k : Nat) : Int)).toNat * 1 = k * 1 + 0 ∧ (cur.map ia)[k]? = some (ia n) := by
  subst hk hc; simp
theorem put_g2 (hc : cur = (y :: rp).reverse ++ n :: suf) : (((rp.length : Nat) : Int)).toNat * 1 = rp.length * 1 + 0 ∧ (cur.map ia)[rp.length]? = some (ia y) := by
  subst hc; simp
theorem put_s1 (hk : k = (y :: rp).length) (hc : cur = (y :: rp).reverse ++ n :: suf) : (((k : Nat) : Int)).toNat * 1 = k * 1 + 0 ∧ (cur.map ia)[k]? = some (ia n) ∧ ((rp.reverse ++ y :: y :: suf).map ia) = (cur.map ia).set k (ia y) := by
  refine ⟨(put_g1 hk hc).1, (put_g1 hk hc).2, ?_⟩
  subst hk hc; simp [List.set_append]
theorem put_s2 : (((rp.length : Nat) : Int)).toNat * 1 = rp.length * 1 + 0 ∧ ((rp.reverse ++ y :: y :: suf).map ia)[rp.length]? = some (ia y) ∧ ((rp.reverse ++ n :: y :: suf).map ia) = ((rp.reverse ++ y :: y :: suf).map ia).set rp.length (ia n) := by
  refine ⟨by simp, by simp, ?_⟩
  simp [List.set_append]
theorem put_i3 : 0 ≤ ((rp.length : Nat) : Int) ∧ (((rp.length : Nat) : Int)).toNat < ((rp.reverse ++ y :: y :: suf).map ia).length := by simp <;> omega
end

theorem put_ok53 (l : List Int) (n : Int) (hn : l.length ≤ 60000) : CallRow Tryz.prog GT 53 3 1 (l.map ia) [.int .i64 n] ((insL l n).map ia) := by
  refine callRow_of Tryz.func53 rfl (by simp [Tryz.f53]) rfl fun B ac hBd hG hS => ?_
  refine runs_seq ?_
  refine reg [] [0, 1] hG hS (env := [(0, .osl 0), (1, .int .i64 n)]) (own := [.row 3 1 (l.map ia)]) (obs := []) (by kernel_rfl) (trivial) fun ac wd hS => ?_
  refine runs_seq ?_
  refine reg [(3, .lst ((l ++ [n]).map ia))] [0] hG hS (env := [(0, .osl 1)]) (own := [.gone, .row 3 1 ((l ++ [n]).map ia)]) (obs := [AppOK 1 (l.map ia) [.int .i64 n] ∧ (l ++ [n]).map ia = (l.map ia) ++ [.int .i64 n]]) (by kernel_rfl) (⟨⟨by simp <;> omega, by intro e he; simp at he; subst he; exact ⟨rfl, rfl⟩⟩, by simp [ia]⟩) fun ac wd hS => ?_
  refine runs_seq ?_
  refine runs_seq ?_
  refine reg [(1, .is (((l ++ [n]).length : Nat) : Int)), (2, .is ((l.reverse.length : Nat) : Int))] [0, 5] hG hS (env := [(0, .osl 1), (5, .int .i64 ((l.reverse.length : Nat) : Int))]) (own := [.gone, .row 3 1 ((l ++ [n]).map ia)]) (obs := [(((l ++ [n]).map ia).length : Int) = (((l ++ [n]).length : Nat) : Int), IntKind.i64.wrap ((((l ++ [n]).length : Nat) : Int) - 1) = ((l.reverse.length : Nat) : Int)]) (by kernel_rfl) (⟨len_map, (by show _ = _; rw [wrap_i64 (by simp <;> omega) (by simp <;> omega)]; simp)⟩) fun ac wd hS => ?_
  refine runs_block ?_
  refine runs_loop ?_
  have hinv : ∃ (rp suf cur : List Int) (k : Nat), k = rp.length ∧ k ≤ 65536 ∧ cur = rp.reverse ++ n :: suf ∧ insL l n = insR n rp suf ∧ Sat B ⟨Tryz.f53.ntmps, [(0, .osl 0), (5, .int .i64 ((k : Nat) : Int))], [.row 3 1 (cur.map ia)]⟩ ac wd := ⟨l.reverse, [], l ++ [n], l.reverse.length, rfl, by simp <;> omega, by simp, rfl, hS.sel [1] [0, 5] (by kernel_rfl)⟩
  clear hS
  obtain ⟨rp, suf, cur, k, hk, hkb, hc, hr, hS⟩ := hinv
  induction rp generalizing suf cur k ac wd with
  | nil =>
    refine runs_seq ?_
    refine runs_seq ?_
    refine drw [(2, .dec false)] [0, 5, 26] hG hS (env := [(0, .osl 0), (5, .int .i64 ((k : Nat) : Int)), (26, .bool false)]) (own := [.row 3 1 (cur.map ia)]) (obs := [decide (((k : Nat) : Int) > 0) = false]) (by kernel_rfl) (by kernel_rfl) ((by subst hk; rfl)) fun ac wd hS => ?_
    refine cond_no hS (c := false) (by kernel_rfl) rfl ?_
    refine runs_exit (by rfl) ?_
    refine runs_seq ?_
    refine reg [] [4] hG hS (env := [(4, .osl 0)]) (own := [.row 3 1 (cur.map ia)]) (obs := []) (by kernel_rfl) (trivial) fun ac wd hS => ?_
    rw [show insL l n = cur from by rw [hr, hc]; rfl]
    exact ret_row Tryz.func53 rfl hBd hS (by kernel_rfl) (j := 0) rfl
  | cons y rp ih =>
    refine runs_seq ?_
    refine runs_seq ?_
    rcases Bool.eq_false_or_eq_true (decide (n < y)) with hb1 | hb1
    · skip
      refine drw [(2, .dec true), (6, .el k 0 (.int .i64 n) []), (9, .is ((rp.length : Nat) : Int)), (11, .el rp.length 0 (.int .i64 y) []), (13, .dec true)] [0, 5, 26] hG hS (env := [(0, .osl 0), (5, .int .i64 ((k : Nat) : Int)), (26, .bool true)]) (own := [.row 3 1 (cur.map ia)]) (obs := [decide (((k : Nat) : Int) > 0) = true, 0 ≤ (((k : Nat) : Int) : Int) ∧ (((k : Nat) : Int) : Int).toNat < (cur.map ia).length, (((k : Nat) : Int) : Int).toNat * 1 = k * 1 + 0 ∧ (cur.map ia)[k]? = some (.int .i64 n), IntKind.i64.wrap (((k : Nat) : Int) - 1) = ((rp.length : Nat) : Int), 0 ≤ (((rp.length : Nat) : Int) : Int) ∧ (((rp.length : Nat) : Int) : Int).toNat < (cur.map ia).length, (((rp.length : Nat) : Int) : Int).toNat * 1 = rp.length * 1 + 0 ∧ (cur.map ia)[rp.length]? = some (.int .i64 y), decide (n < y) = true]) (by kernel_rfl) (by kernel_rfl) (⟨(by subst hk; simp <;> omega), (put_i1 hk hc), (put_g1 hk hc), (put_k hk hkb), (put_i2 hk hc), (put_g2 hc), hb1⟩) fun ac wd hS => ?_
      refine cond_yes hS (c := true) (by kernel_rfl) rfl ?_
      refine runs_skip ?_
      refine runs_seq ?_
      refine runs_block ?_
      refine drw [(4, .is ((rp.length : Nat) : Int)), (7, .is ((rp.length : Nat) : Int)), (9, .el rp.length 0 (.int .i64 y) []), (13, .el k 0 (.int .i64 n) []), (15, .el k 0 (.int .i64 n) ((rp.reverse ++ y :: y :: suf).map ia)), (17, .el rp.length 0 (.int .i64 y) ((rp.reverse ++ n :: y :: suf).map ia))] [0, 5] hG hS (env := [(0, .osl 0), (5, .int .i64 ((k : Nat) : Int))]) (own := [.row 3 1 ((rp.reverse ++ n :: y :: suf).map ia)]) (obs := [IntKind.i64.wrap (((k : Nat) : Int) - 1) = ((rp.length : Nat) : Int), IntKind.i64.wrap (((k : Nat) : Int) - 1) = ((rp.length : Nat) : Int), 0 ≤ (((rp.length : Nat) : Int) : Int) ∧ (((rp.length : Nat) : Int) : Int).toNat < (cur.map ia).length, (((rp.length : Nat) : Int) : Int).toNat * 1 = rp.length * 1 + 0 ∧ (cur.map ia)[rp.length]? = some (.int .i64 y), 0 ≤ (((k : Nat) : Int) : Int) ∧ (((k : Nat) : Int) : Int).toNat < (cur.map ia).length, (((k : Nat) : Int) : Int).toNat * 1 = k * 1 + 0 ∧ (cur.map ia)[k]? = some (.int .i64 n), 0 ≤ (((k : Nat) : Int) : Int) ∧ (((k : Nat) : Int) : Int).toNat < (cur.map ia).length, (((k : Nat) : Int) : Int).toNat * 1 = k * 1 + 0 ∧ (cur.map ia)[k]? = some (.int .i64 n) ∧ (rp.reverse ++ y :: y :: suf).map ia = (cur.map ia).set k (.int .i64 y), 0 ≤ (((rp.length : Nat) : Int) : Int) ∧ (((rp.length : Nat) : Int) : Int).toNat < ((rp.reverse ++ y :: y :: suf).map ia).length, (((rp.length : Nat) : Int) : Int).toNat * 1 = rp.length * 1 + 0 ∧ ((rp.reverse ++ y :: y :: suf).map ia)[rp.length]? = some (.int .i64 y) ∧ (rp.reverse ++ n :: y :: suf).map ia = ((rp.reverse ++ y :: y :: suf).map ia).set rp.length (.int .i64 n)]) (by kernel_rfl) (by kernel_rfl) (⟨(put_k hk hkb), (put_k hk hkb), (put_i2 hk hc), (put_g2 hc), (put_i1 hk hc), (put_g1 hk hc), (put_i1 hk hc), (put_s1 hk hc), put_i3, put_s2⟩) fun ac wd hS => ?_
      refine runs_inBlock ?_
      refine reg [(1, .is ((rp.length : Nat) : Int))] [0, 5] hG hS (env := [(0, .osl 0), (5, .int .i64 ((rp.length : Nat) : Int))]) (own := [.row 3 1 ((rp.reverse ++ n :: y :: suf).map ia)]) (obs := [IntKind.i64.wrap (((k : Nat) : Int) - 1) = ((rp.length : Nat) : Int)]) (by kernel_rfl) ((put_k hk hkb)) fun ac wd hS => ?_
      refine runs_inLoop ?_
      exact ih _ _ (y :: suf) (rp.reverse ++ n :: y :: suf) rp.length rfl (by simp at hk; omega) rfl (by rw [hr]; have h9 := hb1; simp at h9; simp only [insR]; rw [if_pos h9]) (hS.sel [0] [0, 5] (by kernel_rfl))
    · skip
      refine drw [(2, .dec true), (6, .el k 0 (.int .i64 n) []), (9, .is ((rp.length : Nat) : Int)), (11, .el rp.length 0 (.int .i64 y) []), (13, .dec false)] [0, 5, 26] hG hS (env := [(0, .osl 0), (5, .int .i64 ((k : Nat) : Int)), (26, .bool false)]) (own := [.row 3 1 (cur.map ia)]) (obs := [decide (((k : Nat) : Int) > 0) = true, 0 ≤ (((k : Nat) : Int) : Int) ∧ (((k : Nat) : Int) : Int).toNat < (cur.map ia).length, (((k : Nat) : Int) : Int).toNat * 1 = k * 1 + 0 ∧ (cur.map ia)[k]? = some (.int .i64 n), IntKind.i64.wrap (((k : Nat) : Int) - 1) = ((rp.length : Nat) : Int), 0 ≤ (((rp.length : Nat) : Int) : Int) ∧ (((rp.length : Nat) : Int) : Int).toNat < (cur.map ia).length, (((rp.length : Nat) : Int) : Int).toNat * 1 = rp.length * 1 + 0 ∧ (cur.map ia)[rp.length]? = some (.int .i64 y), decide (n < y) = false]) (by kernel_rfl) (by kernel_rfl) (⟨(by subst hk; simp <;> omega), (put_i1 hk hc), (put_g1 hk hc), (put_k hk hkb), (put_i2 hk hc), (put_g2 hc), hb1⟩) fun ac wd hS => ?_
      refine cond_no hS (c := false) (by kernel_rfl) rfl ?_
      refine runs_exit (by rfl) ?_
      refine runs_seq ?_
      refine reg [] [4] hG hS (env := [(4, .osl 0)]) (own := [.row 3 1 (cur.map ia)]) (obs := []) (by kernel_rfl) (trivial) fun ac wd hS => ?_
      rw [show insL l n = cur from by rw [hr, hc]; have h9 := hb1; simp at h9; simp only [insR]; rw [if_neg (by omega)]]
      exact ret_row Tryz.func53 rfl hBd hS (by kernel_rfl) (j := 0) rfl
def lastF (home : Int) (facts : List Report) (r : Report) : List Law → Option Int
  | [] => none
  | x :: l => if (x.Land != home) || (U8.i x.Kind != U8.i r.Kind) then lastF home facts r l else some (lastOfLaw facts r x)
theorem lastGo_eq (home : Int) (facts : List Report) (r : Report) : ∀ l, lastGo home facts r l = .tup [.int .i64 ((lastF home facts r l).getD 0), .bool (lastF home facts r l).isSome]
  | [] => rfl
  | x :: l => by
    unfold lastGo lastF
    cases (x.Land != home) || (U8.i x.Kind != U8.i r.Kind)
    · simp
    · simpa using lastGo_eq home facts r l
def lastRef (c : Code) (homes : List Home) (facts : List Report) (r : Report) : Option Int := lastF (landI homes r.Account) facts r c.Laws
theorem lastRef_ok' (c : Code) (homes : List Home) (facts : List Report) (r : Report) (hc1 : c.Laws.length ≤ 65536) (hh : homes.length ≤ 65536) (hf : facts.length ≤ 65536) :
    CallA Tryz.prog GT 49 [Code.av c, .sl (homes.map Home.av), .sl (facts.map Report.av), Report.av r] (.tup [.int .i64 ((lastRef c homes facts r).getD 0), .bool (lastRef c homes facts r).isSome]) := by
  have := lastRef_ok c homes facts r hc1 hh hf
  rwa [lastGo_eq] at this
def shownRefB (c : Code) (homes : List Home) (facts : List Report) (r : Report) (day : Int) : Bool := (lastRef c homes facts r).isSome && (decide (r.About ≤ day) && decide (day ≤ (lastRef c homes facts r).getD 0))
theorem shownRef_ok (c : Code) (homes : List Home) (facts : List Report) (r : Report) (day : Int) (hc1 : c.Laws.length ≤ 65536) (hh : homes.length ≤ 65536) (hf : facts.length ≤ 65536) : CallA Tryz.prog GT 52 [Code.av c, .sl (homes.map Home.av), .sl (facts.map Report.av), Report.av r, .int .i64 day] (.bool (shownRefB c homes facts r day)) := by
  refine callA_of Tryz.func52 rfl (by simp [Tryz.f52]) rfl fun B ac hB hBd hG hS => ?_
  refine runs_seq ?_
  refine reg [] [1, 2, 4, 5, 8] hG hS (env := [(1, .sl (homes.map Home.av)), (2, .sl (facts.map Report.av)), (4, .int .i64 day), (5, .box 0 0), (8, .box 1 0)]) (own := [.box none 25 [.sl (c.Laws.map Law.av), .sl (c.Stills.map Still.av)], .box none 73 [.int .i64 r.Id, .int .i64 r.Source, .int .i64 r.Account, .int .i64 r.Made, .int .i64 r.About, .int .u8 (U8.i r.Kind), .int .i64 r.Cents, .int .i64 r.Of]]) (obs := []) (by kernel_rfl) (trivial) fun ac wd hS => ?_
  refine runs_seq ?_
  refine reg [(4, .av (.tup [.int .i64 ((lastRef c homes facts r).getD 0), .bool ((lastRef c homes facts r).isSome)]))] [4, 8, 11, 12] hG hS (env := [(4, .int .i64 day), (8, .box 1 0), (11, .int .i64 ((lastRef c homes facts r).getD 0)), (12, .bool ((lastRef c homes facts r).isSome))]) (own := [.box none 25 [.sl (c.Laws.map Law.av), .sl (c.Stills.map Still.av)], .box none 73 [.int .i64 r.Id, .int .i64 r.Source, .int .i64 r.Account, .int .i64 r.Made, .int .i64 r.About, .int .u8 (U8.i r.Kind), .int .i64 r.Cents, .int .i64 r.Of]]) (obs := [CallA Tryz.prog GT 49 [Code.av c, .sl (homes.map Home.av), .sl (facts.map Report.av), Report.av r] (.tup [.int .i64 ((lastRef c homes facts r).getD 0), .bool ((lastRef c homes facts r).isSome)])]) (by kernel_rfl) ((lastRef_ok' _ _ _ _ hc1 hh hf)) fun ac wd hS => ?_
  refine runs_seq ?_
  rcases Bool.eq_false_or_eq_true ((lastRef c homes facts r).isSome) with hb1 | hb1
  · skip
    rcases Bool.eq_false_or_eq_true (decide (r.About ≤ day)) with hb2 | hb2
    · skip
      refine reg [(1, .dec true), (7, .dec true)] [10] hG hS (env := [(10, .bool (decide (day ≤ ((lastRef c homes facts r).getD 0))))]) (own := [.box none 25 [.sl (c.Laws.map Law.av), .sl (c.Stills.map Still.av)], .box none 73 [.int .i64 r.Id, .int .i64 r.Source, .int .i64 r.Account, .int .i64 r.Made, .int .i64 r.About, .int .u8 (U8.i r.Kind), .int .i64 r.Cents, .int .i64 r.Of]]) (obs := [(lastRef c homes facts r).isSome = true, decide (r.About ≤ day) = true]) (by kernel_rfl) (⟨hb1, hb2⟩) fun ac wd hS => ?_
      rw [show (.bool (shownRefB c homes facts r day) : AV) = .bool (decide (day ≤ ((lastRef c homes facts r).getD 0))) from by simp only [shownRefB, hb1, hb2, Bool.and_true, Bool.true_and, Bool.and_false, Bool.false_and, Bool.or_true, Bool.true_or, Bool.or_false, Bool.false_or, Bool.not_true, Bool.not_false]]
      exact retz Tryz.func52 rfl hB hBd hS (by kernel_rfl) rfl
    · skip
      refine reg [(1, .dec true), (7, .dec false)] [10] hG hS (env := [(10, .bool false)]) (own := [.box none 25 [.sl (c.Laws.map Law.av), .sl (c.Stills.map Still.av)], .box none 73 [.int .i64 r.Id, .int .i64 r.Source, .int .i64 r.Account, .int .i64 r.Made, .int .i64 r.About, .int .u8 (U8.i r.Kind), .int .i64 r.Cents, .int .i64 r.Of]]) (obs := [(lastRef c homes facts r).isSome = true, decide (r.About ≤ day) = false]) (by kernel_rfl) (⟨hb1, hb2⟩) fun ac wd hS => ?_
      rw [show (.bool (shownRefB c homes facts r day) : AV) = .bool false from by simp only [shownRefB, hb1, hb2, Bool.and_true, Bool.true_and, Bool.and_false, Bool.false_and, Bool.or_true, Bool.true_or, Bool.or_false, Bool.false_or, Bool.not_true, Bool.not_false]]
      exact retz Tryz.func52 rfl hB hBd hS (by kernel_rfl) rfl
  · skip
    refine reg [(1, .dec false)] [10] hG hS (env := [(10, .bool false)]) (own := [.box none 25 [.sl (c.Laws.map Law.av), .sl (c.Stills.map Still.av)], .box none 73 [.int .i64 r.Id, .int .i64 r.Source, .int .i64 r.Account, .int .i64 r.Made, .int .i64 r.About, .int .u8 (U8.i r.Kind), .int .i64 r.Cents, .int .i64 r.Of]]) (obs := [(lastRef c homes facts r).isSome = false]) (by kernel_rfl) (hb1) fun ac wd hS => ?_
    rw [show (.bool (shownRefB c homes facts r day) : AV) = .bool false from by simp only [shownRefB, hb1, Bool.and_true, Bool.true_and, Bool.and_false, Bool.false_and, Bool.or_true, Bool.true_or, Bool.or_false, Bool.false_or, Bool.not_true, Bool.not_false]]
    exact retz Tryz.func52 rfl hB hBd hS (by kernel_rfl) rfl
end Go.Fw

set_option maxRecDepth 20000
namespace Go.Fw
open Go.Proofs

def UniqR (l : List Report) : Prop := ∀ x ∈ l, getR l x.Id = some x ∧ 0 ≤ x.Id
def bestI (b : Option Report) : Int := match b with
  | none => -1
  | some r => r.Id
def corrStep (l : List Report) (id : Int) (q : Report) (b : Option Report) (x : Report) : Option Report :=
  if (U8.i x.Kind != 8) || ((x.Of != id) || (!aimsB l x || (decide (withdrawnI l x.Id x ≥ 0) || !centsB (U8.i q.Kind) x.Cents))) then b else
    match b with
    | none => some x
    | some y => if decide (x.Made > y.Made) || ((x.Made == y.Made) && decide (x.Id > y.Id)) then some x else some y
def correctedO (l : List Report) (id : Int) (q : Report) : Option Report := l.foldl (corrStep l id q) none
theorem best_cases (b : Option Report) {l : List Report} (h : ∀ y, b = some y → getR l y.Id = some y ∧ 0 ≤ y.Id) : (b = none ∧ decide (bestI b < 0) = true) ∨ ∃ y, b = some y ∧ decide (bestI b < 0) = false ∧ 0 ≤ atI l (bestI b) ∧ l[(atI l (bestI b)).toNat]? = some y ∧ bestI b = y.Id := by
  cases b with
  | none => exact .inl ⟨rfl, rfl⟩
  | some y =>
    obtain ⟨h1, h2⟩ := h y rfl
    obtain ⟨h3, h4⟩ := at_some h1
    exact .inr ⟨y, rfl, decide_eq_false (by simp only [bestI]; omega), h3, h4, rfl⟩
theorem mem_mid {α : Type} {l pre rest : List α} {x : α} (h : l = pre ++ x :: rest) : x ∈ l := by rw [h]; simp
theorem corrected_ok (l : List Report) (id : Int) (q : Report) (hq : getR l id = some q) (hu : UniqR l) (hn : l.length ≤ 65536) : CallA Tryz.prog GT 122 [.sl (l.map Report.av), .int .i64 id] (.int .i64 (bestI (correctedO l id q))) := by
  obtain ⟨hk0, hk1⟩ := at_some hq
  refine callA_of Tryz.func122 rfl (by simp [Tryz.f122]) rfl fun B ac hB hBd hG hS => ?_
  refine runs_seq ?_
  refine reg [] [0, 1] hG hS (env := [(0, .sl (l.map Report.av)), (1, .int .i64 id)]) (own := []) (obs := []) (by kernel_rfl) (trivial) fun ac wd hS => ?_
  refine runs_seq ?_
  refine reg [] [0, 1, 5] hG hS (env := [(0, .sl (l.map Report.av)), (1, .int .i64 id), (5, .int .i64 (-1))]) (own := []) (obs := []) (by kernel_rfl) (trivial) fun ac wd hS => ?_
  refine runs_seq ?_
  refine reg [(2, .av (.int .i64 (atI l id)))] [0, 1, 5, 6] hG hS (env := [(0, .sl (l.map Report.av)), (1, .int .i64 id), (5, .int .i64 (-1)), (6, .int .i64 (atI l id))]) (own := []) (obs := [CallA Tryz.prog GT 48 [.sl (l.map Report.av), .int .i64 id] (.int .i64 (atI l id))]) (by kernel_rfl) ((at_ok _ _ hn)) fun ac wd hS => ?_
  refine runs_seq ?_
  refine runs_seq ?_
  refine reg [] [0, 1, 5, 6, 7] hG hS (env := [(0, .sl (l.map Report.av)), (1, .int .i64 id), (5, .int .i64 (-1)), (6, .int .i64 (atI l id)), (7, .int .i64 0)]) (own := []) (obs := []) (by kernel_rfl) (trivial) fun ac wd hS => ?_
  refine runs_block ?_
  refine runs_loop ?_
  have hinv : ∃ (pre rest : List Report) (best : Option Report), l = pre ++ rest ∧ (l.foldl (corrStep l id q) none = rest.foldl (corrStep l id q) best) ∧ (∀ y, best = some y → getR l y.Id = some y ∧ 0 ≤ y.Id) ∧ Sat B ⟨Tryz.f122.ntmps, [(0, .sl (l.map Report.av)), (1, .int .i64 id), (5, .int .i64 (bestI best)), (6, .int .i64 (atI l id)), (7, .int .i64 ((pre.length : Nat) : Int))], []⟩ ac wd := ⟨[], l, none, rfl, rfl, (by intro y h; cases h), hS.sel [] [0, 1, 5, 6, 7] (by kernel_rfl)⟩
  clear hS
  obtain ⟨pre, rest, best, hl, hr, hb, hS⟩ := hinv
  induction rest generalizing pre best ac wd with
  | nil =>
    refine runs_seq ?_
    refine runs_seq ?_
    refine reg [(2, .is ((l.length : Nat) : Int)), (3, .dec false)] [0, 1, 5, 6, 7, 14] hG hS (env := [(0, .sl (l.map Report.av)), (1, .int .i64 id), (5, .int .i64 (bestI best)), (6, .int .i64 (atI l id)), (7, .int .i64 ((pre.length : Nat) : Int)), (14, .bool false)]) (own := []) (obs := [((l.map Report.av).length : Int) = ((l.length : Nat) : Int), decide (((pre.length : Nat) : Int) < ((l.length : Nat) : Int)) = false]) (by kernel_rfl) (⟨len_map, (lt_no hl)⟩) fun ac wd hS => ?_
    refine cond_no hS (c := false) (by kernel_rfl) rfl ?_
    refine runs_exit (by rfl) ?_
    refine runs_seq ?_
    refine reg [] [4] hG hS (env := [(4, .int .i64 (bestI best))]) (own := []) (obs := []) (by kernel_rfl) (trivial) fun ac wd hS => ?_
    rw [show (.int .i64 (bestI (correctedO l id q)) : AV) = .int .i64 (bestI best) from by simp only [correctedO, hr, List.foldl_nil]]
    exact retz Tryz.func122 rfl hB hBd hS (by kernel_rfl) rfl
  | cons x rest ihx =>
    refine runs_seq ?_
    refine runs_seq ?_
    refine reg [(2, .is ((l.length : Nat) : Int)), (3, .dec true)] [0, 1, 5, 6, 7, 14] hG hS (env := [(0, .sl (l.map Report.av)), (1, .int .i64 id), (5, .int .i64 (bestI best)), (6, .int .i64 (atI l id)), (7, .int .i64 ((pre.length : Nat) : Int)), (14, .bool true)]) (own := []) (obs := [((l.map Report.av).length : Int) = ((l.length : Nat) : Int), decide (((pre.length : Nat) : Int) < ((l.length : Nat) : Int)) = true]) (by kernel_rfl) (⟨len_map, (lt_yes hl)⟩) fun ac wd hS => ?_
    refine cond_yes hS (c := true) (by kernel_rfl) rfl ?_
    refine runs_skip ?_
    refine runs_seq ?_
    refine runs_block ?_
    refine runs_seq ?_
    refine runs_seq ?_
    rcases Bool.eq_false_or_eq_true (((U8.i x.Kind) != 8)) with hb1 | hb1
    · skip
      refine drw [(2, .av (Report.av x)), (6, .dec true)] [0, 1, 5, 6, 7, 64] hG hS (env := [(0, .sl (l.map Report.av)), (1, .int .i64 id), (5, .int .i64 (bestI best)), (6, .int .i64 (atI l id)), (7, .int .i64 ((pre.length : Nat) : Int)), (64, .bool true)]) (own := []) (obs := [0 ≤ (((pre.length : Nat) : Int) : Int) ∧ (l.map Report.av)[(((pre.length : Nat) : Int) : Int).toNat]? = some (Report.av x), ((U8.i x.Kind) != 8) = true]) (by kernel_rfl) (by kernel_rfl) (⟨(idx_ok hl), hb1⟩) fun ac wd hS => ?_
      refine cond_yes hS (c := true) (by kernel_rfl) rfl ?_
      refine runs_exit (by rfl) ?_
      refine reg [(1, .is (((pre ++ [x]).length : Nat) : Int))] [0, 1, 5, 6, 7] hG hS (env := [(0, .sl (l.map Report.av)), (1, .int .i64 id), (5, .int .i64 (bestI best)), (6, .int .i64 (atI l id)), (7, .int .i64 (((pre ++ [x]).length : Nat) : Int))]) (own := []) (obs := [IntKind.i64.wrap (((pre.length : Nat) : Int) + 1) = (((pre ++ [x]).length : Nat) : Int)]) (by kernel_rfl) ((next_len hl hn)) fun ac wd hS => ?_
      refine runs_inLoop ?_
      exact ihx _ _ (pre ++ [x]) best (next_eq hl) (by rw [hr]; simp only [List.foldl_cons, corrStep, hb1, Bool.and_true, Bool.true_and, Bool.and_false, Bool.false_and, Bool.or_true, Bool.true_or, Bool.or_false, Bool.false_or, Bool.not_true, Bool.not_false, Bool.false_eq_true, if_true, if_false]) hb (hS.sel [] [0, 1, 5, 6, 7] (by kernel_rfl))
    · skip
      rcases Bool.eq_false_or_eq_true ((x.Of != id)) with hb2 | hb2
      · skip
        refine drw [(2, .av (Report.av x)), (6, .dec false), (9, .av (Report.av x)), (15, .dec true)] [0, 1, 5, 6, 7, 64] hG hS (env := [(0, .sl (l.map Report.av)), (1, .int .i64 id), (5, .int .i64 (bestI best)), (6, .int .i64 (atI l id)), (7, .int .i64 ((pre.length : Nat) : Int)), (64, .bool true)]) (own := []) (obs := [0 ≤ (((pre.length : Nat) : Int) : Int) ∧ (l.map Report.av)[(((pre.length : Nat) : Int) : Int).toNat]? = some (Report.av x), ((U8.i x.Kind) != 8) = false, 0 ≤ (((pre.length : Nat) : Int) : Int) ∧ (l.map Report.av)[(((pre.length : Nat) : Int) : Int).toNat]? = some (Report.av x), (x.Of != id) = true]) (by kernel_rfl) (by kernel_rfl) (⟨(idx_ok hl), hb1, (idx_ok hl), hb2⟩) fun ac wd hS => ?_
        refine cond_yes hS (c := true) (by kernel_rfl) rfl ?_
        refine runs_exit (by rfl) ?_
        refine reg [(1, .is (((pre ++ [x]).length : Nat) : Int))] [0, 1, 5, 6, 7] hG hS (env := [(0, .sl (l.map Report.av)), (1, .int .i64 id), (5, .int .i64 (bestI best)), (6, .int .i64 (atI l id)), (7, .int .i64 (((pre ++ [x]).length : Nat) : Int))]) (own := []) (obs := [IntKind.i64.wrap (((pre.length : Nat) : Int) + 1) = (((pre ++ [x]).length : Nat) : Int)]) (by kernel_rfl) ((next_len hl hn)) fun ac wd hS => ?_
        refine runs_inLoop ?_
        exact ihx _ _ (pre ++ [x]) best (next_eq hl) (by rw [hr]; simp only [List.foldl_cons, corrStep, hb1, hb2, Bool.and_true, Bool.true_and, Bool.and_false, Bool.false_and, Bool.or_true, Bool.true_or, Bool.or_false, Bool.false_or, Bool.not_true, Bool.not_false, Bool.false_eq_true, if_true, if_false]) hb (hS.sel [] [0, 1, 5, 6, 7] (by kernel_rfl))
      · skip
        rcases Bool.eq_false_or_eq_true (aimsB l x) with hb3 | hb3
        · skip
          rcases Bool.eq_false_or_eq_true (decide ((withdrawnI l x.Id x) ≥ 0)) with hb4 | hb4
          · skip
            refine drw [(2, .av (Report.av x)), (6, .dec false), (9, .av (Report.av x)), (15, .dec false), (19, .av (Report.av x)), (21, .av (.bool (aimsB l x))), (24, .dec false), (28, .av (Report.av x)), (31, .av (.int .i64 (withdrawnI l x.Id x))), (34, .dec true)] [0, 1, 5, 6, 7, 64] hG hS (env := [(0, .sl (l.map Report.av)), (1, .int .i64 id), (5, .int .i64 (bestI best)), (6, .int .i64 (atI l id)), (7, .int .i64 ((pre.length : Nat) : Int)), (64, .bool true)]) (own := []) (obs := [0 ≤ (((pre.length : Nat) : Int) : Int) ∧ (l.map Report.av)[(((pre.length : Nat) : Int) : Int).toNat]? = some (Report.av x), ((U8.i x.Kind) != 8) = false, 0 ≤ (((pre.length : Nat) : Int) : Int) ∧ (l.map Report.av)[(((pre.length : Nat) : Int) : Int).toNat]? = some (Report.av x), (x.Of != id) = false, 0 ≤ (((pre.length : Nat) : Int) : Int) ∧ (l.map Report.av)[(((pre.length : Nat) : Int) : Int).toNat]? = some (Report.av x), CallA Tryz.prog GT 143 [.sl (l.map Report.av), Report.av x] (.bool (aimsB l x)), (!aimsB l x) = false, 0 ≤ (((pre.length : Nat) : Int) : Int) ∧ (l.map Report.av)[(((pre.length : Nat) : Int) : Int).toNat]? = some (Report.av x), CallA Tryz.prog GT 121 [.sl (l.map Report.av), .int .i64 x.Id] (.int .i64 (withdrawnI l x.Id x)), decide ((withdrawnI l x.Id x) ≥ 0) = true]) (by kernel_rfl) (by kernel_rfl) (⟨(idx_ok hl), hb1, (idx_ok hl), hb2, (idx_ok hl), (aims_ok _ _ hn), by rw [hb3]; rfl, (idx_ok hl), (withdrawn_ok _ _ _ (hu x (mem_mid hl)).1 hn), hb4⟩) fun ac wd hS => ?_
            refine cond_yes hS (c := true) (by kernel_rfl) rfl ?_
            refine runs_exit (by rfl) ?_
            refine reg [(1, .is (((pre ++ [x]).length : Nat) : Int))] [0, 1, 5, 6, 7] hG hS (env := [(0, .sl (l.map Report.av)), (1, .int .i64 id), (5, .int .i64 (bestI best)), (6, .int .i64 (atI l id)), (7, .int .i64 (((pre ++ [x]).length : Nat) : Int))]) (own := []) (obs := [IntKind.i64.wrap (((pre.length : Nat) : Int) + 1) = (((pre ++ [x]).length : Nat) : Int)]) (by kernel_rfl) ((next_len hl hn)) fun ac wd hS => ?_
            refine runs_inLoop ?_
            exact ihx _ _ (pre ++ [x]) best (next_eq hl) (by rw [hr]; simp only [List.foldl_cons, corrStep, hb1, hb2, hb3, hb4, Bool.and_true, Bool.true_and, Bool.and_false, Bool.false_and, Bool.or_true, Bool.true_or, Bool.or_false, Bool.false_or, Bool.not_true, Bool.not_false, Bool.false_eq_true, if_true, if_false]) hb (hS.sel [] [0, 1, 5, 6, 7] (by kernel_rfl))
          · skip
            rcases Bool.eq_false_or_eq_true (centsB (U8.i q.Kind) x.Cents) with hb5 | hb5
            · skip
              refine drw [(2, .av (Report.av x)), (6, .dec false), (9, .av (Report.av x)), (15, .dec false), (19, .av (Report.av x)), (21, .av (.bool (aimsB l x))), (24, .dec false), (28, .av (Report.av x)), (31, .av (.int .i64 (withdrawnI l x.Id x))), (34, .dec false), (37, .av (Report.av q)), (42, .av (Report.av x)), (45, .av (.bool (centsB (U8.i q.Kind) x.Cents))), (47, .dec false)] [0, 1, 5, 6, 7, 64] hG hS (env := [(0, .sl (l.map Report.av)), (1, .int .i64 id), (5, .int .i64 (bestI best)), (6, .int .i64 (atI l id)), (7, .int .i64 ((pre.length : Nat) : Int)), (64, .bool false)]) (own := []) (obs := [0 ≤ (((pre.length : Nat) : Int) : Int) ∧ (l.map Report.av)[(((pre.length : Nat) : Int) : Int).toNat]? = some (Report.av x), ((U8.i x.Kind) != 8) = false, 0 ≤ (((pre.length : Nat) : Int) : Int) ∧ (l.map Report.av)[(((pre.length : Nat) : Int) : Int).toNat]? = some (Report.av x), (x.Of != id) = false, 0 ≤ (((pre.length : Nat) : Int) : Int) ∧ (l.map Report.av)[(((pre.length : Nat) : Int) : Int).toNat]? = some (Report.av x), CallA Tryz.prog GT 143 [.sl (l.map Report.av), Report.av x] (.bool (aimsB l x)), (!aimsB l x) = false, 0 ≤ (((pre.length : Nat) : Int) : Int) ∧ (l.map Report.av)[(((pre.length : Nat) : Int) : Int).toNat]? = some (Report.av x), CallA Tryz.prog GT 121 [.sl (l.map Report.av), .int .i64 x.Id] (.int .i64 (withdrawnI l x.Id x)), decide ((withdrawnI l x.Id x) ≥ 0) = false, 0 ≤ (atI l id : Int) ∧ (l.map Report.av)[(atI l id : Int).toNat]? = some (Report.av q), 0 ≤ (((pre.length : Nat) : Int) : Int) ∧ (l.map Report.av)[(((pre.length : Nat) : Int) : Int).toNat]? = some (Report.av x), CallA Tryz.prog GT 137 [.int .u8 (U8.i q.Kind), .int .i64 x.Cents] (.bool (centsB (U8.i q.Kind) x.Cents)), (!centsB (U8.i q.Kind) x.Cents) = false]) (by kernel_rfl) (by kernel_rfl) (⟨(idx_ok hl), hb1, (idx_ok hl), hb2, (idx_ok hl), (aims_ok _ _ hn), by rw [hb3]; rfl, (idx_ok hl), (withdrawn_ok _ _ _ (hu x (mem_mid hl)).1 hn), hb4, (at_idx hk0 hk1), (idx_ok hl), (cents_ok _ _), by rw [hb5]; rfl⟩) fun ac wd hS => ?_
              refine cond_no hS (c := false) (by kernel_rfl) rfl ?_
              refine runs_skip ?_
              refine runs_seq ?_
              rcases best_cases best hb with ⟨hbn, hbl⟩ | ⟨y, hbs, hbl, hba, hbi, hbe⟩
              · skip
                refine drw [(2, .dec true)] [0, 1, 5, 6, 7, 105] hG hS (env := [(0, .sl (l.map Report.av)), (1, .int .i64 id), (5, .int .i64 (bestI best)), (6, .int .i64 (atI l id)), (7, .int .i64 ((pre.length : Nat) : Int)), (105, .bool true)]) (own := []) (obs := [decide ((bestI best) < 0) = true]) (by kernel_rfl) (by kernel_rfl) (hbl) fun ac wd hS => ?_
                refine cond_yes hS (c := true) (by kernel_rfl) rfl ?_
                refine reg [(2, .av (Report.av x))] [0, 1, 5, 6, 7] hG hS (env := [(0, .sl (l.map Report.av)), (1, .int .i64 id), (5, .int .i64 x.Id), (6, .int .i64 (atI l id)), (7, .int .i64 ((pre.length : Nat) : Int))]) (own := []) (obs := [0 ≤ (((pre.length : Nat) : Int) : Int) ∧ (l.map Report.av)[(((pre.length : Nat) : Int) : Int).toNat]? = some (Report.av x)]) (by kernel_rfl) ((idx_ok hl)) fun ac wd hS => ?_
                refine runs_inBlock ?_
                refine reg [(1, .is (((pre ++ [x]).length : Nat) : Int))] [0, 1, 5, 6, 7] hG hS (env := [(0, .sl (l.map Report.av)), (1, .int .i64 id), (5, .int .i64 x.Id), (6, .int .i64 (atI l id)), (7, .int .i64 (((pre ++ [x]).length : Nat) : Int))]) (own := []) (obs := [IntKind.i64.wrap (((pre.length : Nat) : Int) + 1) = (((pre ++ [x]).length : Nat) : Int)]) (by kernel_rfl) ((next_len hl hn)) fun ac wd hS => ?_
                refine runs_inLoop ?_
                exact ihx _ _ (pre ++ [x]) (some x) (next_eq hl) (by rw [hr]; simp only [List.foldl_cons, corrStep, hb1, hb2, hb3, hb4, hb5, hbn, Bool.and_true, Bool.true_and, Bool.and_false, Bool.false_and, Bool.or_true, Bool.true_or, Bool.or_false, Bool.false_or, Bool.not_true, Bool.not_false, Bool.false_eq_true, if_true, if_false]) (by intro z hz; cases hz; exact hu x (mem_mid hl)) (hS.sel [] [0, 1, 5, 6, 7] (by kernel_rfl))
              · skip
                rcases Bool.eq_false_or_eq_true (decide (x.Made > y.Made)) with hb6 | hb6
                · skip
                  refine drw [(2, .dec false), (5, .av (Report.av x)), (11, .av (.int .i64 (atI l (bestI best)))), (12, .av (Report.av y)), (17, .dec true)] [0, 1, 5, 6, 7, 105] hG hS (env := [(0, .sl (l.map Report.av)), (1, .int .i64 id), (5, .int .i64 (bestI best)), (6, .int .i64 (atI l id)), (7, .int .i64 ((pre.length : Nat) : Int)), (105, .bool true)]) (own := []) (obs := [decide ((bestI best) < 0) = false, 0 ≤ (((pre.length : Nat) : Int) : Int) ∧ (l.map Report.av)[(((pre.length : Nat) : Int) : Int).toNat]? = some (Report.av x), CallA Tryz.prog GT 48 [.sl (l.map Report.av), .int .i64 (bestI best)] (.int .i64 (atI l (bestI best))), 0 ≤ (atI l (bestI best) : Int) ∧ (l.map Report.av)[(atI l (bestI best) : Int).toNat]? = some (Report.av y), decide (x.Made > y.Made) = true]) (by kernel_rfl) (by kernel_rfl) (⟨hbl, (idx_ok hl), (at_ok _ _ hn), (at_idx hba hbi), hb6⟩) fun ac wd hS => ?_
                  refine cond_yes hS (c := true) (by kernel_rfl) rfl ?_
                  refine reg [(2, .av (Report.av x))] [0, 1, 5, 6, 7] hG hS (env := [(0, .sl (l.map Report.av)), (1, .int .i64 id), (5, .int .i64 x.Id), (6, .int .i64 (atI l id)), (7, .int .i64 ((pre.length : Nat) : Int))]) (own := []) (obs := [0 ≤ (((pre.length : Nat) : Int) : Int) ∧ (l.map Report.av)[(((pre.length : Nat) : Int) : Int).toNat]? = some (Report.av x)]) (by kernel_rfl) ((idx_ok hl)) fun ac wd hS => ?_
                  refine runs_inBlock ?_
                  refine reg [(1, .is (((pre ++ [x]).length : Nat) : Int))] [0, 1, 5, 6, 7] hG hS (env := [(0, .sl (l.map Report.av)), (1, .int .i64 id), (5, .int .i64 x.Id), (6, .int .i64 (atI l id)), (7, .int .i64 (((pre ++ [x]).length : Nat) : Int))]) (own := []) (obs := [IntKind.i64.wrap (((pre.length : Nat) : Int) + 1) = (((pre ++ [x]).length : Nat) : Int)]) (by kernel_rfl) ((next_len hl hn)) fun ac wd hS => ?_
                  refine runs_inLoop ?_
                  exact ihx _ _ (pre ++ [x]) (some x) (next_eq hl) (by rw [hr]; (try simp only [hbe] at hb6); simp only [List.foldl_cons, corrStep, hb1, hb2, hb3, hb4, hb5, hb6, hbs, bestI, Bool.and_true, Bool.true_and, Bool.and_false, Bool.false_and, Bool.or_true, Bool.true_or, Bool.or_false, Bool.false_or, Bool.not_true, Bool.not_false, Bool.false_eq_true, if_true, if_false]) (by intro z hz; cases hz; exact hu x (mem_mid hl)) (hS.sel [] [0, 1, 5, 6, 7] (by kernel_rfl))
                · skip
                  rcases Bool.eq_false_or_eq_true ((x.Made == y.Made)) with hb7 | hb7
                  · skip
                    rcases Bool.eq_false_or_eq_true (decide (x.Id > (bestI best))) with hb8 | hb8
                    · skip
                      refine drw [(2, .dec false), (5, .av (Report.av x)), (11, .av (.int .i64 (atI l (bestI best)))), (12, .av (Report.av y)), (17, .dec false), (20, .av (Report.av x)), (26, .av (.int .i64 (atI l (bestI best)))), (27, .av (Report.av y)), (31, .dec true), (34, .av (Report.av x)), (40, .dec true)] [0, 1, 5, 6, 7, 105] hG hS (env := [(0, .sl (l.map Report.av)), (1, .int .i64 id), (5, .int .i64 (bestI best)), (6, .int .i64 (atI l id)), (7, .int .i64 ((pre.length : Nat) : Int)), (105, .bool true)]) (own := []) (obs := [decide ((bestI best) < 0) = false, 0 ≤ (((pre.length : Nat) : Int) : Int) ∧ (l.map Report.av)[(((pre.length : Nat) : Int) : Int).toNat]? = some (Report.av x), CallA Tryz.prog GT 48 [.sl (l.map Report.av), .int .i64 (bestI best)] (.int .i64 (atI l (bestI best))), 0 ≤ (atI l (bestI best) : Int) ∧ (l.map Report.av)[(atI l (bestI best) : Int).toNat]? = some (Report.av y), decide (x.Made > y.Made) = false, 0 ≤ (((pre.length : Nat) : Int) : Int) ∧ (l.map Report.av)[(((pre.length : Nat) : Int) : Int).toNat]? = some (Report.av x), CallA Tryz.prog GT 48 [.sl (l.map Report.av), .int .i64 (bestI best)] (.int .i64 (atI l (bestI best))), 0 ≤ (atI l (bestI best) : Int) ∧ (l.map Report.av)[(atI l (bestI best) : Int).toNat]? = some (Report.av y), (x.Made == y.Made) = true, 0 ≤ (((pre.length : Nat) : Int) : Int) ∧ (l.map Report.av)[(((pre.length : Nat) : Int) : Int).toNat]? = some (Report.av x), decide (x.Id > (bestI best)) = true]) (by kernel_rfl) (by kernel_rfl) (⟨hbl, (idx_ok hl), (at_ok _ _ hn), (at_idx hba hbi), hb6, (idx_ok hl), (at_ok _ _ hn), (at_idx hba hbi), hb7, (idx_ok hl), hb8⟩) fun ac wd hS => ?_
                      refine cond_yes hS (c := true) (by kernel_rfl) rfl ?_
                      refine reg [(2, .av (Report.av x))] [0, 1, 5, 6, 7] hG hS (env := [(0, .sl (l.map Report.av)), (1, .int .i64 id), (5, .int .i64 x.Id), (6, .int .i64 (atI l id)), (7, .int .i64 ((pre.length : Nat) : Int))]) (own := []) (obs := [0 ≤ (((pre.length : Nat) : Int) : Int) ∧ (l.map Report.av)[(((pre.length : Nat) : Int) : Int).toNat]? = some (Report.av x)]) (by kernel_rfl) ((idx_ok hl)) fun ac wd hS => ?_
                      refine runs_inBlock ?_
                      refine reg [(1, .is (((pre ++ [x]).length : Nat) : Int))] [0, 1, 5, 6, 7] hG hS (env := [(0, .sl (l.map Report.av)), (1, .int .i64 id), (5, .int .i64 x.Id), (6, .int .i64 (atI l id)), (7, .int .i64 (((pre ++ [x]).length : Nat) : Int))]) (own := []) (obs := [IntKind.i64.wrap (((pre.length : Nat) : Int) + 1) = (((pre ++ [x]).length : Nat) : Int)]) (by kernel_rfl) ((next_len hl hn)) fun ac wd hS => ?_
                      refine runs_inLoop ?_
                      exact ihx _ _ (pre ++ [x]) (some x) (next_eq hl) (by rw [hr]; (try simp only [hbe] at hb8); simp only [List.foldl_cons, corrStep, hb1, hb2, hb3, hb4, hb5, hb6, hb7, hb8, hbs, bestI, Bool.and_true, Bool.true_and, Bool.and_false, Bool.false_and, Bool.or_true, Bool.true_or, Bool.or_false, Bool.false_or, Bool.not_true, Bool.not_false, Bool.false_eq_true, if_true, if_false]) (by intro z hz; cases hz; exact hu x (mem_mid hl)) (hS.sel [] [0, 1, 5, 6, 7] (by kernel_rfl))
                    · skip
                      refine drw [(2, .dec false), (5, .av (Report.av x)), (11, .av (.int .i64 (atI l (bestI best)))), (12, .av (Report.av y)), (17, .dec false), (20, .av (Report.av x)), (26, .av (.int .i64 (atI l (bestI best)))), (27, .av (Report.av y)), (31, .dec true), (34, .av (Report.av x)), (40, .dec false)] [0, 1, 5, 6, 7, 105] hG hS (env := [(0, .sl (l.map Report.av)), (1, .int .i64 id), (5, .int .i64 (bestI best)), (6, .int .i64 (atI l id)), (7, .int .i64 ((pre.length : Nat) : Int)), (105, .bool false)]) (own := []) (obs := [decide ((bestI best) < 0) = false, 0 ≤ (((pre.length : Nat) : Int) : Int) ∧ (l.map Report.av)[(((pre.length : Nat) : Int) : Int).toNat]? = some (Report.av x), CallA Tryz.prog GT 48 [.sl (l.map Report.av), .int .i64 (bestI best)] (.int .i64 (atI l (bestI best))), 0 ≤ (atI l (bestI best) : Int) ∧ (l.map Report.av)[(atI l (bestI best) : Int).toNat]? = some (Report.av y), decide (x.Made > y.Made) = false, 0 ≤ (((pre.length : Nat) : Int) : Int) ∧ (l.map Report.av)[(((pre.length : Nat) : Int) : Int).toNat]? = some (Report.av x), CallA Tryz.prog GT 48 [.sl (l.map Report.av), .int .i64 (bestI best)] (.int .i64 (atI l (bestI best))), 0 ≤ (atI l (bestI best) : Int) ∧ (l.map Report.av)[(atI l (bestI best) : Int).toNat]? = some (Report.av y), (x.Made == y.Made) = true, 0 ≤ (((pre.length : Nat) : Int) : Int) ∧ (l.map Report.av)[(((pre.length : Nat) : Int) : Int).toNat]? = some (Report.av x), decide (x.Id > (bestI best)) = false]) (by kernel_rfl) (by kernel_rfl) (⟨hbl, (idx_ok hl), (at_ok _ _ hn), (at_idx hba hbi), hb6, (idx_ok hl), (at_ok _ _ hn), (at_idx hba hbi), hb7, (idx_ok hl), hb8⟩) fun ac wd hS => ?_
                      refine cond_no hS (c := false) (by kernel_rfl) rfl ?_
                      refine runs_skip ?_
                      refine runs_inBlock ?_
                      refine reg [(1, .is (((pre ++ [x]).length : Nat) : Int))] [0, 1, 5, 6, 7] hG hS (env := [(0, .sl (l.map Report.av)), (1, .int .i64 id), (5, .int .i64 (bestI best)), (6, .int .i64 (atI l id)), (7, .int .i64 (((pre ++ [x]).length : Nat) : Int))]) (own := []) (obs := [IntKind.i64.wrap (((pre.length : Nat) : Int) + 1) = (((pre ++ [x]).length : Nat) : Int)]) (by kernel_rfl) ((next_len hl hn)) fun ac wd hS => ?_
                      refine runs_inLoop ?_
                      exact ihx _ _ (pre ++ [x]) best (next_eq hl) (by rw [hr]; (try simp only [hbe] at hb8); simp only [List.foldl_cons, corrStep, hb1, hb2, hb3, hb4, hb5, hb6, hb7, hb8, hbs, bestI, Bool.and_true, Bool.true_and, Bool.and_false, Bool.false_and, Bool.or_true, Bool.true_or, Bool.or_false, Bool.false_or, Bool.not_true, Bool.not_false, Bool.false_eq_true, if_true, if_false]) hb (hS.sel [] [0, 1, 5, 6, 7] (by kernel_rfl))
                  · skip
                    refine drw [(2, .dec false), (5, .av (Report.av x)), (11, .av (.int .i64 (atI l (bestI best)))), (12, .av (Report.av y)), (17, .dec false), (20, .av (Report.av x)), (26, .av (.int .i64 (atI l (bestI best)))), (27, .av (Report.av y)), (31, .dec false)] [0, 1, 5, 6, 7, 105] hG hS (env := [(0, .sl (l.map Report.av)), (1, .int .i64 id), (5, .int .i64 (bestI best)), (6, .int .i64 (atI l id)), (7, .int .i64 ((pre.length : Nat) : Int)), (105, .bool false)]) (own := []) (obs := [decide ((bestI best) < 0) = false, 0 ≤ (((pre.length : Nat) : Int) : Int) ∧ (l.map Report.av)[(((pre.length : Nat) : Int) : Int).toNat]? = some (Report.av x), CallA Tryz.prog GT 48 [.sl (l.map Report.av), .int .i64 (bestI best)] (.int .i64 (atI l (bestI best))), 0 ≤ (atI l (bestI best) : Int) ∧ (l.map Report.av)[(atI l (bestI best) : Int).toNat]? = some (Report.av y), decide (x.Made > y.Made) = false, 0 ≤ (((pre.length : Nat) : Int) : Int) ∧ (l.map Report.av)[(((pre.length : Nat) : Int) : Int).toNat]? = some (Report.av x), CallA Tryz.prog GT 48 [.sl (l.map Report.av), .int .i64 (bestI best)] (.int .i64 (atI l (bestI best))), 0 ≤ (atI l (bestI best) : Int) ∧ (l.map Report.av)[(atI l (bestI best) : Int).toNat]? = some (Report.av y), (x.Made == y.Made) = false]) (by kernel_rfl) (by kernel_rfl) (⟨hbl, (idx_ok hl), (at_ok _ _ hn), (at_idx hba hbi), hb6, (idx_ok hl), (at_ok _ _ hn), (at_idx hba hbi), hb7⟩) fun ac wd hS => ?_
                    refine cond_no hS (c := false) (by kernel_rfl) rfl ?_
                    refine runs_skip ?_
                    refine runs_inBlock ?_
                    refine reg [(1, .is (((pre ++ [x]).length : Nat) : Int))] [0, 1, 5, 6, 7] hG hS (env := [(0, .sl (l.map Report.av)), (1, .int .i64 id), (5, .int .i64 (bestI best)), (6, .int .i64 (atI l id)), (7, .int .i64 (((pre ++ [x]).length : Nat) : Int))]) (own := []) (obs := [IntKind.i64.wrap (((pre.length : Nat) : Int) + 1) = (((pre ++ [x]).length : Nat) : Int)]) (by kernel_rfl) ((next_len hl hn)) fun ac wd hS => ?_
                    refine runs_inLoop ?_
                    exact ihx _ _ (pre ++ [x]) best (next_eq hl) (by rw [hr]; (try simp only [hbe] at hb7); simp only [List.foldl_cons, corrStep, hb1, hb2, hb3, hb4, hb5, hb6, hb7, hbs, bestI, Bool.and_true, Bool.true_and, Bool.and_false, Bool.false_and, Bool.or_true, Bool.true_or, Bool.or_false, Bool.false_or, Bool.not_true, Bool.not_false, Bool.false_eq_true, if_true, if_false]) hb (hS.sel [] [0, 1, 5, 6, 7] (by kernel_rfl))
            · skip
              refine drw [(2, .av (Report.av x)), (6, .dec false), (9, .av (Report.av x)), (15, .dec false), (19, .av (Report.av x)), (21, .av (.bool (aimsB l x))), (24, .dec false), (28, .av (Report.av x)), (31, .av (.int .i64 (withdrawnI l x.Id x))), (34, .dec false), (37, .av (Report.av q)), (42, .av (Report.av x)), (45, .av (.bool (centsB (U8.i q.Kind) x.Cents))), (47, .dec true)] [0, 1, 5, 6, 7, 64] hG hS (env := [(0, .sl (l.map Report.av)), (1, .int .i64 id), (5, .int .i64 (bestI best)), (6, .int .i64 (atI l id)), (7, .int .i64 ((pre.length : Nat) : Int)), (64, .bool true)]) (own := []) (obs := [0 ≤ (((pre.length : Nat) : Int) : Int) ∧ (l.map Report.av)[(((pre.length : Nat) : Int) : Int).toNat]? = some (Report.av x), ((U8.i x.Kind) != 8) = false, 0 ≤ (((pre.length : Nat) : Int) : Int) ∧ (l.map Report.av)[(((pre.length : Nat) : Int) : Int).toNat]? = some (Report.av x), (x.Of != id) = false, 0 ≤ (((pre.length : Nat) : Int) : Int) ∧ (l.map Report.av)[(((pre.length : Nat) : Int) : Int).toNat]? = some (Report.av x), CallA Tryz.prog GT 143 [.sl (l.map Report.av), Report.av x] (.bool (aimsB l x)), (!aimsB l x) = false, 0 ≤ (((pre.length : Nat) : Int) : Int) ∧ (l.map Report.av)[(((pre.length : Nat) : Int) : Int).toNat]? = some (Report.av x), CallA Tryz.prog GT 121 [.sl (l.map Report.av), .int .i64 x.Id] (.int .i64 (withdrawnI l x.Id x)), decide ((withdrawnI l x.Id x) ≥ 0) = false, 0 ≤ (atI l id : Int) ∧ (l.map Report.av)[(atI l id : Int).toNat]? = some (Report.av q), 0 ≤ (((pre.length : Nat) : Int) : Int) ∧ (l.map Report.av)[(((pre.length : Nat) : Int) : Int).toNat]? = some (Report.av x), CallA Tryz.prog GT 137 [.int .u8 (U8.i q.Kind), .int .i64 x.Cents] (.bool (centsB (U8.i q.Kind) x.Cents)), (!centsB (U8.i q.Kind) x.Cents) = true]) (by kernel_rfl) (by kernel_rfl) (⟨(idx_ok hl), hb1, (idx_ok hl), hb2, (idx_ok hl), (aims_ok _ _ hn), by rw [hb3]; rfl, (idx_ok hl), (withdrawn_ok _ _ _ (hu x (mem_mid hl)).1 hn), hb4, (at_idx hk0 hk1), (idx_ok hl), (cents_ok _ _), by rw [hb5]; rfl⟩) fun ac wd hS => ?_
              refine cond_yes hS (c := true) (by kernel_rfl) rfl ?_
              refine runs_exit (by rfl) ?_
              refine reg [(1, .is (((pre ++ [x]).length : Nat) : Int))] [0, 1, 5, 6, 7] hG hS (env := [(0, .sl (l.map Report.av)), (1, .int .i64 id), (5, .int .i64 (bestI best)), (6, .int .i64 (atI l id)), (7, .int .i64 (((pre ++ [x]).length : Nat) : Int))]) (own := []) (obs := [IntKind.i64.wrap (((pre.length : Nat) : Int) + 1) = (((pre ++ [x]).length : Nat) : Int)]) (by kernel_rfl) ((next_len hl hn)) fun ac wd hS => ?_
              refine runs_inLoop ?_
              exact ihx _ _ (pre ++ [x]) best (next_eq hl) (by rw [hr]; simp only [List.foldl_cons, corrStep, hb1, hb2, hb3, hb4, hb5, Bool.and_true, Bool.true_and, Bool.and_false, Bool.false_and, Bool.or_true, Bool.true_or, Bool.or_false, Bool.false_or, Bool.not_true, Bool.not_false, Bool.false_eq_true, if_true, if_false]) hb (hS.sel [] [0, 1, 5, 6, 7] (by kernel_rfl))
        · skip
          refine drw [(2, .av (Report.av x)), (6, .dec false), (9, .av (Report.av x)), (15, .dec false), (19, .av (Report.av x)), (21, .av (.bool (aimsB l x))), (24, .dec true)] [0, 1, 5, 6, 7, 64] hG hS (env := [(0, .sl (l.map Report.av)), (1, .int .i64 id), (5, .int .i64 (bestI best)), (6, .int .i64 (atI l id)), (7, .int .i64 ((pre.length : Nat) : Int)), (64, .bool true)]) (own := []) (obs := [0 ≤ (((pre.length : Nat) : Int) : Int) ∧ (l.map Report.av)[(((pre.length : Nat) : Int) : Int).toNat]? = some (Report.av x), ((U8.i x.Kind) != 8) = false, 0 ≤ (((pre.length : Nat) : Int) : Int) ∧ (l.map Report.av)[(((pre.length : Nat) : Int) : Int).toNat]? = some (Report.av x), (x.Of != id) = false, 0 ≤ (((pre.length : Nat) : Int) : Int) ∧ (l.map Report.av)[(((pre.length : Nat) : Int) : Int).toNat]? = some (Report.av x), CallA Tryz.prog GT 143 [.sl (l.map Report.av), Report.av x] (.bool (aimsB l x)), (!aimsB l x) = true]) (by kernel_rfl) (by kernel_rfl) (⟨(idx_ok hl), hb1, (idx_ok hl), hb2, (idx_ok hl), (aims_ok _ _ hn), by rw [hb3]; rfl⟩) fun ac wd hS => ?_
          refine cond_yes hS (c := true) (by kernel_rfl) rfl ?_
          refine runs_exit (by rfl) ?_
          refine reg [(1, .is (((pre ++ [x]).length : Nat) : Int))] [0, 1, 5, 6, 7] hG hS (env := [(0, .sl (l.map Report.av)), (1, .int .i64 id), (5, .int .i64 (bestI best)), (6, .int .i64 (atI l id)), (7, .int .i64 (((pre ++ [x]).length : Nat) : Int))]) (own := []) (obs := [IntKind.i64.wrap (((pre.length : Nat) : Int) + 1) = (((pre ++ [x]).length : Nat) : Int)]) (by kernel_rfl) ((next_len hl hn)) fun ac wd hS => ?_
          refine runs_inLoop ?_
          exact ihx _ _ (pre ++ [x]) best (next_eq hl) (by rw [hr]; simp only [List.foldl_cons, corrStep, hb1, hb2, hb3, Bool.and_true, Bool.true_and, Bool.and_false, Bool.false_and, Bool.or_true, Bool.true_or, Bool.or_false, Bool.false_or, Bool.not_true, Bool.not_false, Bool.false_eq_true, if_true, if_false]) hb (hS.sel [] [0, 1, 5, 6, 7] (by kernel_rfl))
end Go.Fw

set_option maxRecDepth 20000
namespace Go.Fw
open Go.Proofs

def fixWith (x c : Report) : Report := ⟨x.Id, x.Source, x.Account, x.Made, c.About, x.Kind, c.Cents, x.Of⟩
def fixR (l : List Report) (x : Report) : Report := match correctedO l x.Id x with
  | none => x
  | some c => fixWith x c
def insRR (r : Report) : List Report → List Report → List Report
  | [], suf => r :: suf
  | y :: rp, suf => if beforeB r y then insRR r rp (y :: suf) else (y :: rp).reverse ++ r :: suf
def insRep (l : List Report) (r : Report) : List Report := insRR r l.reverse []
def standStep (l : List Report) (out : List Report) (x : Report) : List Report := if decide (U8.i x.Kind > 7) || decide (withdrawnI l x.Id x ≥ 0) then out else insRep out (fixR l x)
def standingL (l : List Report) : List Report := l.foldl (standStep l) []
theorem corr_mem (l : List Report) (id : Int) (q : Report) : ∀ (m : List Report) (b : Option Report), (∀ x ∈ m, x ∈ l) → (∀ y, b = some y → y ∈ l) → ∀ y, m.foldl (corrStep l id q) b = some y → y ∈ l
  | [], b, _, hb, y, h => hb y h
  | x :: m, b, hm, hb, y, h => by
    simp only [List.foldl_cons] at h
    refine corr_mem l id q m _ (fun z hz => hm z (by simp [hz])) ?_ y h
    intro z hz
    unfold corrStep at hz
    split at hz
    · exact hb z hz
    · cases b with
      | none => simp only [Option.some.injEq] at hz; subst hz; exact hm _ (by simp)
      | some u =>
        simp only at hz
        split at hz
        · simp only [Option.some.injEq] at hz; subst hz; exact hm _ (by simp)
        · simp only [Option.some.injEq] at hz; subst hz; exact hb _ rfl
theorem corr_cases {l : List Report} (hu : UniqR l) (x : Report) : (correctedO l x.Id x = none ∧ decide (bestI (correctedO l x.Id x) ≥ 0) = false ∧ fixR l x = x) ∨
    ∃ c, correctedO l x.Id x = some c ∧ decide (bestI (correctedO l x.Id x) ≥ 0) = true ∧ 0 ≤ atI l (bestI (correctedO l x.Id x)) ∧ l[(atI l (bestI (correctedO l x.Id x))).toNat]? = some c ∧ fixR l x = fixWith x c := by
  cases h : correctedO l x.Id x with
  | none => exact .inl ⟨rfl, rfl, by simp only [fixR, h]⟩
  | some c =>
    obtain ⟨h1, h2⟩ := hu c (corr_mem l _ _ l none (fun _ h => h) (fun _ h => by cases h) c h)
    obtain ⟨h3, h4⟩ := at_some h1
    exact .inr ⟨c, rfl, decide_eq_true (by simpa [bestI] using h2), h3, h4, by simp only [fixR, h]⟩
section
variable {n y : Report} {rp suf cur : List Report} {k : Nat}
theorem putR_k (hk : k = (y :: rp).length) (hb : k ≤ 65536) : IntKind.i64.wrap (((k : Nat) : Int) - 1) = ((rp.length : Nat) : Int) := by
  subst hk; simp at hb; rw [wrap_i64 (by simp <;> omega) (by simp <;> omega)]; simp
theorem putR_i1 (hk : k = rp.length) (hc : cur = rp.reverse ++ n :: suf) : 0 ≤ ((k : Nat) : Int) ∧ (((k : Nat) : Int)).toNat < (cur.map Report.av).length := by
  subst hk hc; simp <;> omega
theorem putR_i2 (hk : k = (y :: rp).length) (hc : cur = (y :: rp).reverse ++ n :: suf) : 0 ≤ ((rp.length : Nat) : Int) ∧ (((rp.length : Nat) : Int)).toNat < (cur.map Report.av).length := by
  subst hk hc; simp <;> omega
theorem putR_g1 (hk : k = rp.length) (hc : cur = rp.reverse ++ n :: suf) : (((k : Nat) : Int)).toNat * 8 = k * 8 + 0 ∧ (cur.map Report.av)[k]? = some (Report.av n) := by
  subst hk hc; simp
theorem putR_g2 (hc : cur = (y :: rp).reverse ++ n :: suf) : (((rp.length : Nat) : Int)).toNat * 8 = rp.length * 8 + 0 ∧ (cur.map Report.av)[rp.length]? = some (Report.av y) := by
  subst hc; simp
theorem putR_s1 (hk : k = (y :: rp).length) (hc : cur = (y :: rp).reverse ++ n :: suf) : (((k : Nat) : Int)).toNat * 8 = k * 8 + 0 ∧ (cur.map Report.av)[k]? = some (Report.av n) ∧ ((rp.reverse ++ y :: y :: suf).map Report.av) = (cur.map Report.av).set k (Report.av y) := by
  refine ⟨(putR_g1 hk hc).1, (putR_g1 hk hc).2, ?_⟩
  subst hk hc; simp [List.set_append]
theorem putR_s2 : (((rp.length : Nat) : Int)).toNat * 8 = rp.length * 8 + 0 ∧ ((rp.reverse ++ y :: y :: suf).map Report.av)[rp.length]? = some (Report.av y) ∧ ((rp.reverse ++ n :: y :: suf).map Report.av) = ((rp.reverse ++ y :: y :: suf).map Report.av).set rp.length (Report.av n) := by
  refine ⟨by simp, by simp, ?_⟩
  simp [List.set_append]
theorem putR_i3 : 0 ≤ ((rp.length : Nat) : Int) ∧ (((rp.length : Nat) : Int)).toNat < ((rp.reverse ++ y :: y :: suf).map Report.av).length := by simp <;> omega
end
theorem insRR_len (r : Report) : ∀ rp suf : List Report, (insRR r rp suf).length = rp.length + suf.length + 1
  | [], suf => by simp [insRR]
  | y :: rp, suf => by
    unfold insRR
    split
    · rw [insRR_len]; simp; omega
    · simp; omega
theorem insRep_len (l : List Report) (r : Report) : (insRep l r).length = l.length + 1 := by simp [insRep, insRR_len]
theorem standing_ok (l : List Report) (hu : UniqR l) (hn : l.length ≤ 60000) : CallA Tryz.prog GT 85 [.sl (l.map Report.av)] (.sl ((standingL l).map Report.av)) := by
  have hn' : l.length ≤ 65536 := by omega
  refine callA_of Tryz.func85 rfl (by simp [Tryz.f85]) rfl fun B ac hB hBd hG hS => ?_
  refine runs_seq ?_
  refine reg [] [0] hG hS (env := [(0, .sl (l.map Report.av))]) (own := []) (obs := []) (by kernel_rfl) (trivial) fun ac wd hS => ?_
  refine runs_seq ?_
  refine reg [(0, .row 73 8)] [0, 3] hG hS (env := [(0, .sl (l.map Report.av)), (3, .osl 0)]) (own := [.row 73 8 []]) (obs := []) (by kernel_rfl) (trivial) fun ac wd hS => ?_
  refine runs_seq ?_
  refine runs_seq ?_
  refine reg [] [0, 3, 4] hG hS (env := [(0, .sl (l.map Report.av)), (3, .osl 0), (4, .int .i64 0)]) (own := [.row 73 8 []]) (obs := []) (by kernel_rfl) (trivial) fun ac wd hS => ?_
  refine runs_block ?_
  refine runs_loop ?_
  have hinv : ∃ (pre rest : List Report) (out : List Report), l = pre ++ rest ∧ (l.foldl (standStep l) [] = rest.foldl (standStep l) out) ∧ (out.length ≤ pre.length ∧ pre.length ≤ 60000) ∧ Sat B ⟨Tryz.f85.ntmps, [(0, .sl (l.map Report.av)), (3, .osl 0), (4, .int .i64 ((pre.length : Nat) : Int))], [.row 73 8 (out.map Report.av)]⟩ ac wd := ⟨[], l, [], rfl, rfl, ⟨by simp, by simp⟩, hS.sel [0] [0, 3, 4] (by kernel_rfl)⟩
  clear hS
  obtain ⟨pre, rest, out, hl, hr, hlen, hS⟩ := hinv
  induction rest generalizing pre out ac wd with
  | nil =>
    refine runs_seq ?_
    refine runs_seq ?_
    refine reg [(2, .is ((l.length : Nat) : Int)), (3, .dec false)] [0, 3, 4, 11] hG hS (env := [(0, .sl (l.map Report.av)), (3, .osl 0), (4, .int .i64 ((pre.length : Nat) : Int)), (11, .bool false)]) (own := [.row 73 8 (out.map Report.av)]) (obs := [((l.map Report.av).length : Int) = ((l.length : Nat) : Int), decide (((pre.length : Nat) : Int) < ((l.length : Nat) : Int)) = false]) (by kernel_rfl) (⟨len_map, (lt_no hl)⟩) fun ac wd hS => ?_
    refine cond_no hS (c := false) (by kernel_rfl) rfl ?_
    refine runs_exit (by rfl) ?_
    refine runs_seq ?_
    refine reg [] [2] hG hS (env := [(2, .osl 0)]) (own := [.row 73 8 (out.map Report.av)]) (obs := []) (by kernel_rfl) (trivial) fun ac wd hS => ?_
    rw [show (.sl ((standingL l).map Report.av) : AV) = .sl (out.map Report.av) from by simp only [standingL, hr, List.foldl_nil]]
    exact retz Tryz.func85 rfl hB hBd hS (by kernel_rfl) rfl
  | cons x rest ihx =>
    refine runs_seq ?_
    refine runs_seq ?_
    refine reg [(2, .is ((l.length : Nat) : Int)), (3, .dec true)] [0, 3, 4, 11] hG hS (env := [(0, .sl (l.map Report.av)), (3, .osl 0), (4, .int .i64 ((pre.length : Nat) : Int)), (11, .bool true)]) (own := [.row 73 8 (out.map Report.av)]) (obs := [((l.map Report.av).length : Int) = ((l.length : Nat) : Int), decide (((pre.length : Nat) : Int) < ((l.length : Nat) : Int)) = true]) (by kernel_rfl) (⟨len_map, (lt_yes hl)⟩) fun ac wd hS => ?_
    refine cond_yes hS (c := true) (by kernel_rfl) rfl ?_
    refine runs_skip ?_
    refine runs_seq ?_
    refine runs_block ?_
    refine runs_seq ?_
    refine reg [(2, .av (Report.av x))] [0, 3, 4, 5] hG hS (env := [(0, .sl (l.map Report.av)), (3, .osl 0), (4, .int .i64 ((pre.length : Nat) : Int)), (5, .box 1 0)]) (own := [.row 73 8 (out.map Report.av), .box none 73 [.int .i64 x.Id, .int .i64 x.Source, .int .i64 x.Account, .int .i64 x.Made, .int .i64 x.About, .int .u8 (U8.i x.Kind), .int .i64 x.Cents, .int .i64 x.Of]]) (obs := [0 ≤ (((pre.length : Nat) : Int) : Int) ∧ (l.map Report.av)[(((pre.length : Nat) : Int) : Int).toNat]? = some (Report.av x)]) (by kernel_rfl) ((idx_ok hl)) fun ac wd hS => ?_
    refine runs_seq ?_
    refine runs_seq ?_
    rcases Bool.eq_false_or_eq_true (decide ((U8.i x.Kind) > 7)) with hb1 | hb1
    · skip
      refine reg [(3, .dec true)] [0, 3, 4, 5, 27] hG hS (env := [(0, .sl (l.map Report.av)), (3, .osl 0), (4, .int .i64 ((pre.length : Nat) : Int)), (5, .box 1 0), (27, .bool true)]) (own := [.row 73 8 (out.map Report.av), .box none 73 [.int .i64 x.Id, .int .i64 x.Source, .int .i64 x.Account, .int .i64 x.Made, .int .i64 x.About, .int .u8 (U8.i x.Kind), .int .i64 x.Cents, .int .i64 x.Of]]) (obs := [decide ((U8.i x.Kind) > 7) = true]) (by kernel_rfl) (hb1) fun ac wd hS => ?_
      refine cond_yes hS (c := true) (by kernel_rfl) rfl ?_
      refine runs_exit (by rfl) ?_
      refine reg [(1, .is (((pre ++ [x]).length : Nat) : Int))] [0, 3, 4] hG hS (env := [(0, .sl (l.map Report.av)), (3, .osl 0), (4, .int .i64 (((pre ++ [x]).length : Nat) : Int))]) (own := [.row 73 8 (out.map Report.av), .box none 73 [.int .i64 x.Id, .int .i64 x.Source, .int .i64 x.Account, .int .i64 x.Made, .int .i64 x.About, .int .u8 (U8.i x.Kind), .int .i64 x.Cents, .int .i64 x.Of]]) (obs := [IntKind.i64.wrap (((pre.length : Nat) : Int) + 1) = (((pre ++ [x]).length : Nat) : Int)]) (by kernel_rfl) ((next_len hl hn')) fun ac wd hS => ?_
      refine runs_inLoop ?_
      exact ihx _ _ (pre ++ [x]) out (next_eq hl) (by rw [hr]; simp only [List.foldl_cons, standStep, hb1, Bool.and_true, Bool.true_and, Bool.and_false, Bool.false_and, Bool.or_true, Bool.true_or, Bool.or_false, Bool.false_or, Bool.not_true, Bool.not_false, Bool.false_eq_true, if_true, if_false]) (by have h9 := congrArg List.length hl; simp at h9; constructor <;> (try simp) <;> omega) (hS.sel [0] [0, 3, 4] (by kernel_rfl))
    · skip
      rcases Bool.eq_false_or_eq_true (decide ((withdrawnI l x.Id x) ≥ 0)) with hb2 | hb2
      · skip
        refine reg [(3, .dec false), (7, .av (.int .i64 (withdrawnI l x.Id x))), (9, .dec true)] [0, 3, 4, 5, 27] hG hS (env := [(0, .sl (l.map Report.av)), (3, .osl 0), (4, .int .i64 ((pre.length : Nat) : Int)), (5, .box 1 0), (27, .bool true)]) (own := [.row 73 8 (out.map Report.av), .box none 73 [.int .i64 x.Id, .int .i64 x.Source, .int .i64 x.Account, .int .i64 x.Made, .int .i64 x.About, .int .u8 (U8.i x.Kind), .int .i64 x.Cents, .int .i64 x.Of]]) (obs := [decide ((U8.i x.Kind) > 7) = false, CallA Tryz.prog GT 121 [.sl (l.map Report.av), .int .i64 x.Id] (.int .i64 (withdrawnI l x.Id x)), decide ((withdrawnI l x.Id x) ≥ 0) = true]) (by kernel_rfl) (⟨hb1, (withdrawn_ok _ _ _ (hu x (mem_mid hl)).1 hn'), hb2⟩) fun ac wd hS => ?_
        refine cond_yes hS (c := true) (by kernel_rfl) rfl ?_
        refine runs_exit (by rfl) ?_
        refine reg [(1, .is (((pre ++ [x]).length : Nat) : Int))] [0, 3, 4] hG hS (env := [(0, .sl (l.map Report.av)), (3, .osl 0), (4, .int .i64 (((pre ++ [x]).length : Nat) : Int))]) (own := [.row 73 8 (out.map Report.av), .box none 73 [.int .i64 x.Id, .int .i64 x.Source, .int .i64 x.Account, .int .i64 x.Made, .int .i64 x.About, .int .u8 (U8.i x.Kind), .int .i64 x.Cents, .int .i64 x.Of]]) (obs := [IntKind.i64.wrap (((pre.length : Nat) : Int) + 1) = (((pre ++ [x]).length : Nat) : Int)]) (by kernel_rfl) ((next_len hl hn')) fun ac wd hS => ?_
        refine runs_inLoop ?_
        exact ihx _ _ (pre ++ [x]) out (next_eq hl) (by rw [hr]; simp only [List.foldl_cons, standStep, hb1, hb2, Bool.and_true, Bool.true_and, Bool.and_false, Bool.false_and, Bool.or_true, Bool.true_or, Bool.or_false, Bool.false_or, Bool.not_true, Bool.not_false, Bool.false_eq_true, if_true, if_false]) (by have h9 := congrArg List.length hl; simp at h9; constructor <;> (try simp) <;> omega) (hS.sel [0] [0, 3, 4] (by kernel_rfl))
      · skip
        refine reg [(3, .dec false), (7, .av (.int .i64 (withdrawnI l x.Id x))), (9, .dec false)] [0, 3, 4, 5, 27] hG hS (env := [(0, .sl (l.map Report.av)), (3, .osl 0), (4, .int .i64 ((pre.length : Nat) : Int)), (5, .box 1 0), (27, .bool false)]) (own := [.row 73 8 (out.map Report.av), .box none 73 [.int .i64 x.Id, .int .i64 x.Source, .int .i64 x.Account, .int .i64 x.Made, .int .i64 x.About, .int .u8 (U8.i x.Kind), .int .i64 x.Cents, .int .i64 x.Of]]) (obs := [decide ((U8.i x.Kind) > 7) = false, CallA Tryz.prog GT 121 [.sl (l.map Report.av), .int .i64 x.Id] (.int .i64 (withdrawnI l x.Id x)), decide ((withdrawnI l x.Id x) ≥ 0) = false]) (by kernel_rfl) (⟨hb1, (withdrawn_ok _ _ _ (hu x (mem_mid hl)).1 hn'), hb2⟩) fun ac wd hS => ?_
        refine cond_no hS (c := false) (by kernel_rfl) rfl ?_
        refine runs_skip ?_
        refine runs_seq ?_
        refine runs_seq ?_
        refine reg [(3, .av (.int .i64 (bestI (correctedO l x.Id x))))] [0, 3, 4, 5, 6] hG hS (env := [(0, .sl (l.map Report.av)), (3, .osl 0), (4, .int .i64 ((pre.length : Nat) : Int)), (5, .box 1 0), (6, .int .i64 (bestI (correctedO l x.Id x)))]) (own := [.row 73 8 (out.map Report.av), .box none 73 [.int .i64 x.Id, .int .i64 x.Source, .int .i64 x.Account, .int .i64 x.Made, .int .i64 x.About, .int .u8 (U8.i x.Kind), .int .i64 x.Cents, .int .i64 x.Of]]) (obs := [CallA Tryz.prog GT 122 [.sl (l.map Report.av), .int .i64 x.Id] (.int .i64 (bestI (correctedO l x.Id x)))]) (by kernel_rfl) ((corrected_ok _ _ _ (hu x (mem_mid hl)).1 hu hn')) fun ac wd hS => ?_
        refine runs_seq ?_
        rcases corr_cases hu x with ⟨hcn, hcb, hcf⟩ | ⟨c, hcs, hcb, hca, hci, hcf⟩
        · skip
          refine reg [(1, .dec false)] [0, 3, 4, 5, 6, 33] hG hS (env := [(0, .sl (l.map Report.av)), (3, .osl 0), (4, .int .i64 ((pre.length : Nat) : Int)), (5, .box 1 0), (6, .int .i64 (bestI (correctedO l x.Id x))), (33, .bool false)]) (own := [.row 73 8 (out.map Report.av), .box none 73 [.int .i64 x.Id, .int .i64 x.Source, .int .i64 x.Account, .int .i64 x.Made, .int .i64 x.About, .int .u8 (U8.i x.Kind), .int .i64 x.Cents, .int .i64 x.Of]]) (obs := [decide ((bestI (correctedO l x.Id x)) ≥ 0) = false]) (by kernel_rfl) (hcb) fun ac wd hS => ?_
          refine cond_no hS (c := false) (by kernel_rfl) rfl ?_
          refine runs_skip ?_
          refine runs_seq ?_
          refine reg [(3, .lst ((out ++ [x]).map Report.av))] [0, 3, 4] hG hS (env := [(0, .sl (l.map Report.av)), (3, .osl 2), (4, .int .i64 ((pre.length : Nat) : Int))]) (own := [.gone, .box none 73 [.int .i64 x.Id, .int .i64 x.Source, .int .i64 x.Account, .int .i64 x.Made, .int .i64 x.About, .int .u8 (U8.i x.Kind), .int .i64 x.Cents, .int .i64 x.Of], .row 73 8 ((out ++ [x]).map Report.av)]) (obs := [AppOK 8 (out.map Report.av) [Report.av x] ∧ (out ++ [x]).map Report.av = (out.map Report.av) ++ [Report.av x]]) (by kernel_rfl) (⟨app_ok1 (by have h9 := congrArg List.length hl; simp at h9; omega) rfl rfl, (by rw [List.map_append]; rfl)⟩) fun ac wd hS => ?_
          refine runs_seq ?_
          refine reg [(1, .is (((out ++ [x]).length : Nat) : Int)), (2, .is ((out.reverse.length : Nat) : Int))] [0, 3, 4, 7] hG hS (env := [(0, .sl (l.map Report.av)), (3, .osl 2), (4, .int .i64 ((pre.length : Nat) : Int)), (7, .int .i64 ((out.reverse.length : Nat) : Int))]) (own := [.gone, .box none 73 [.int .i64 x.Id, .int .i64 x.Source, .int .i64 x.Account, .int .i64 x.Made, .int .i64 x.About, .int .u8 (U8.i x.Kind), .int .i64 x.Cents, .int .i64 x.Of], .row 73 8 ((out ++ [x]).map Report.av)]) (obs := [(((out ++ [x]).map Report.av).length : Int) = (((out ++ [x]).length : Nat) : Int), IntKind.i64.wrap ((((out ++ [x]).length : Nat) : Int) - 1) = ((out.reverse.length : Nat) : Int)]) (by kernel_rfl) (⟨len_map, (by have h9 := congrArg List.length hl; simp at h9; show _ = _; rw [wrap_i64 (by simp <;> omega) (by simp <;> omega)]; simp)⟩) fun ac wd hS => ?_
          refine runs_block ?_
          refine runs_loop ?_
          have hinv : ∃ (rp suf cur : List Report) (k : Nat), k = rp.length ∧ k ≤ 65536 ∧ cur = rp.reverse ++ x :: suf ∧ insRep out x = insRR x rp suf ∧ Sat B ⟨Tryz.f85.ntmps, [(0, .sl (l.map Report.av)), (3, .osl 0), (4, .int .i64 ((pre.length : Nat) : Int)), (7, .int .i64 ((k : Nat) : Int))], [.row 73 8 (cur.map Report.av)]⟩ ac wd := ⟨out.reverse, [], out ++ [x], out.reverse.length, rfl, by have h9 := congrArg List.length hl; simp at h9 ⊢; omega, by simp, rfl, hS.sel [2] [0, 3, 4, 7] (by kernel_rfl)⟩
          clear hS
          obtain ⟨rp, suf, cur, k, hk, hkb, hc, hir, hS⟩ := hinv
          induction rp generalizing suf cur k ac wd with
          | nil =>
            refine runs_seq ?_
            refine runs_seq ?_
            refine drw [(2, .dec false)] [0, 3, 4, 7, 70] hG hS (env := [(0, .sl (l.map Report.av)), (3, .osl 0), (4, .int .i64 ((pre.length : Nat) : Int)), (7, .int .i64 ((k : Nat) : Int)), (70, .bool false)]) (own := [.row 73 8 (cur.map Report.av)]) (obs := [decide (((k : Nat) : Int) > 0) = false]) (by kernel_rfl) (by kernel_rfl) ((by subst hk; rfl)) fun ac wd hS => ?_
            refine cond_no hS (c := false) (by kernel_rfl) rfl ?_
            refine runs_exit (by rfl) ?_
            refine runs_inBlock ?_
            refine reg [(1, .is (((pre ++ [x]).length : Nat) : Int))] [0, 3, 4] hG hS (env := [(0, .sl (l.map Report.av)), (3, .osl 0), (4, .int .i64 (((pre ++ [x]).length : Nat) : Int))]) (own := [.row 73 8 (cur.map Report.av)]) (obs := [IntKind.i64.wrap (((pre.length : Nat) : Int) + 1) = (((pre ++ [x]).length : Nat) : Int)]) (by kernel_rfl) ((next_len hl hn')) fun ac wd hS => ?_
            refine runs_inLoop ?_
            exact ihx _ _ (pre ++ [x]) cur (next_eq hl) (by have hins : insRep out (fixR l x) = cur := (by rw [hcf]; exact (by rw [hir, hc]; rfl)); rw [hr]; simp only [List.foldl_cons, standStep, hb1, hb2, Bool.and_true, Bool.true_and, Bool.and_false, Bool.false_and, Bool.or_true, Bool.true_or, Bool.or_false, Bool.false_or, Bool.not_true, Bool.not_false, Bool.false_eq_true, if_true, if_false, hins]) (by have h9 := congrArg List.length hl; simp at h9; have h8 := congrArg List.length hc; simp at h8; simp at hk; have h7 := congrArg List.length hir; rw [insRep_len, insRR_len] at h7; simp at h7; constructor <;> (try simp) <;> omega) (hS.sel [0] [0, 3, 4] (by kernel_rfl))
          | cons y rp ih =>
            refine runs_seq ?_
            refine runs_seq ?_
            rcases Bool.eq_false_or_eq_true (beforeB x y) with hb3 | hb3
            · skip
              refine drw [(2, .dec true), (6, .el k 0 (Report.av x) []), (9, .is ((rp.length : Nat) : Int)), (11, .el rp.length 0 (Report.av y) []), (12, .av (.bool (beforeB x y))), (13, .dec true)] [0, 3, 4, 7, 70] hG hS (env := [(0, .sl (l.map Report.av)), (3, .osl 0), (4, .int .i64 ((pre.length : Nat) : Int)), (7, .int .i64 ((k : Nat) : Int)), (70, .bool true)]) (own := [.row 73 8 (cur.map Report.av)]) (obs := [decide (((k : Nat) : Int) > 0) = true, 0 ≤ (((k : Nat) : Int) : Int) ∧ (((k : Nat) : Int) : Int).toNat < (cur.map Report.av).length, (((k : Nat) : Int) : Int).toNat * 8 = k * 8 + 0 ∧ (cur.map Report.av)[k]? = some (Report.av x), IntKind.i64.wrap (((k : Nat) : Int) - 1) = ((rp.length : Nat) : Int), 0 ≤ (((rp.length : Nat) : Int) : Int) ∧ (((rp.length : Nat) : Int) : Int).toNat < (cur.map Report.av).length, (((rp.length : Nat) : Int) : Int).toNat * 8 = rp.length * 8 + 0 ∧ (cur.map Report.av)[rp.length]? = some (Report.av y), CallA Tryz.prog GT 123 [Report.av x, Report.av y] (.bool (beforeB x y)), beforeB x y = true]) (by kernel_rfl) (by kernel_rfl) (⟨(by subst hk; simp <;> omega), (putR_i1 hk hc), (putR_g1 hk hc), (putR_k hk hkb), (putR_i2 hk hc), (putR_g2 hc), (before_ok _ _), hb3⟩) fun ac wd hS => ?_
              refine cond_yes hS (c := true) (by kernel_rfl) rfl ?_
              refine runs_skip ?_
              refine runs_seq ?_
              refine runs_block ?_
              refine drw [(4, .is ((rp.length : Nat) : Int)), (7, .is ((rp.length : Nat) : Int)), (9, .el rp.length 0 (Report.av y) []), (13, .el k 0 (Report.av x) []), (15, .el k 0 (Report.av x) ((rp.reverse ++ y :: y :: suf).map Report.av)), (17, .el rp.length 0 (Report.av y) ((rp.reverse ++ x :: y :: suf).map Report.av))] [0, 3, 4, 7] hG hS (env := [(0, .sl (l.map Report.av)), (3, .osl 0), (4, .int .i64 ((pre.length : Nat) : Int)), (7, .int .i64 ((k : Nat) : Int))]) (own := [.row 73 8 ((rp.reverse ++ x :: y :: suf).map Report.av)]) (obs := [IntKind.i64.wrap (((k : Nat) : Int) - 1) = ((rp.length : Nat) : Int), IntKind.i64.wrap (((k : Nat) : Int) - 1) = ((rp.length : Nat) : Int), 0 ≤ (((rp.length : Nat) : Int) : Int) ∧ (((rp.length : Nat) : Int) : Int).toNat < (cur.map Report.av).length, (((rp.length : Nat) : Int) : Int).toNat * 8 = rp.length * 8 + 0 ∧ (cur.map Report.av)[rp.length]? = some (Report.av y), 0 ≤ (((k : Nat) : Int) : Int) ∧ (((k : Nat) : Int) : Int).toNat < (cur.map Report.av).length, (((k : Nat) : Int) : Int).toNat * 8 = k * 8 + 0 ∧ (cur.map Report.av)[k]? = some (Report.av x), 0 ≤ (((k : Nat) : Int) : Int) ∧ (((k : Nat) : Int) : Int).toNat < (cur.map Report.av).length, (((k : Nat) : Int) : Int).toNat * 8 = k * 8 + 0 ∧ (cur.map Report.av)[k]? = some (Report.av x) ∧ (rp.reverse ++ y :: y :: suf).map Report.av = (cur.map Report.av).set k (.agg [.int .i64 y.Id, .int .i64 y.Source, .int .i64 y.Account, .int .i64 y.Made, .int .i64 y.About, .int .u8 (U8.i y.Kind), .int .i64 y.Cents, .int .i64 y.Of]), 0 ≤ (((rp.length : Nat) : Int) : Int) ∧ (((rp.length : Nat) : Int) : Int).toNat < ((rp.reverse ++ y :: y :: suf).map Report.av).length, (((rp.length : Nat) : Int) : Int).toNat * 8 = rp.length * 8 + 0 ∧ ((rp.reverse ++ y :: y :: suf).map Report.av)[rp.length]? = some (Report.av y) ∧ (rp.reverse ++ x :: y :: suf).map Report.av = ((rp.reverse ++ y :: y :: suf).map Report.av).set rp.length (.agg [.int .i64 x.Id, .int .i64 x.Source, .int .i64 x.Account, .int .i64 x.Made, .int .i64 x.About, .int .u8 (U8.i x.Kind), .int .i64 x.Cents, .int .i64 x.Of])]) (by kernel_rfl) (by kernel_rfl) (⟨(putR_k hk hkb), (putR_k hk hkb), (putR_i2 hk hc), (putR_g2 hc), (putR_i1 hk hc), (putR_g1 hk hc), (putR_i1 hk hc), (putR_s1 hk hc), putR_i3, putR_s2⟩) fun ac wd hS => ?_
              refine runs_inBlock ?_
              refine reg [(1, .is ((rp.length : Nat) : Int))] [0, 3, 4, 7] hG hS (env := [(0, .sl (l.map Report.av)), (3, .osl 0), (4, .int .i64 ((pre.length : Nat) : Int)), (7, .int .i64 ((rp.length : Nat) : Int))]) (own := [.row 73 8 ((rp.reverse ++ x :: y :: suf).map Report.av)]) (obs := [IntKind.i64.wrap (((k : Nat) : Int) - 1) = ((rp.length : Nat) : Int)]) (by kernel_rfl) ((putR_k hk hkb)) fun ac wd hS => ?_
              refine runs_inLoop ?_
              exact ih _ _ (y :: suf) (rp.reverse ++ x :: y :: suf) rp.length rfl (by simp at hk; omega) rfl (by rw [hir]; have h9 := hb3; simp only [insRR, h9, if_true]) (hS.sel [0] [0, 3, 4, 7] (by kernel_rfl))
            · skip
              refine drw [(2, .dec true), (6, .el k 0 (Report.av x) []), (9, .is ((rp.length : Nat) : Int)), (11, .el rp.length 0 (Report.av y) []), (12, .av (.bool (beforeB x y))), (13, .dec false)] [0, 3, 4, 7, 70] hG hS (env := [(0, .sl (l.map Report.av)), (3, .osl 0), (4, .int .i64 ((pre.length : Nat) : Int)), (7, .int .i64 ((k : Nat) : Int)), (70, .bool false)]) (own := [.row 73 8 (cur.map Report.av)]) (obs := [decide (((k : Nat) : Int) > 0) = true, 0 ≤ (((k : Nat) : Int) : Int) ∧ (((k : Nat) : Int) : Int).toNat < (cur.map Report.av).length, (((k : Nat) : Int) : Int).toNat * 8 = k * 8 + 0 ∧ (cur.map Report.av)[k]? = some (Report.av x), IntKind.i64.wrap (((k : Nat) : Int) - 1) = ((rp.length : Nat) : Int), 0 ≤ (((rp.length : Nat) : Int) : Int) ∧ (((rp.length : Nat) : Int) : Int).toNat < (cur.map Report.av).length, (((rp.length : Nat) : Int) : Int).toNat * 8 = rp.length * 8 + 0 ∧ (cur.map Report.av)[rp.length]? = some (Report.av y), CallA Tryz.prog GT 123 [Report.av x, Report.av y] (.bool (beforeB x y)), beforeB x y = false]) (by kernel_rfl) (by kernel_rfl) (⟨(by subst hk; simp <;> omega), (putR_i1 hk hc), (putR_g1 hk hc), (putR_k hk hkb), (putR_i2 hk hc), (putR_g2 hc), (before_ok _ _), hb3⟩) fun ac wd hS => ?_
              refine cond_no hS (c := false) (by kernel_rfl) rfl ?_
              refine runs_exit (by rfl) ?_
              refine runs_inBlock ?_
              refine reg [(1, .is (((pre ++ [x]).length : Nat) : Int))] [0, 3, 4] hG hS (env := [(0, .sl (l.map Report.av)), (3, .osl 0), (4, .int .i64 (((pre ++ [x]).length : Nat) : Int))]) (own := [.row 73 8 (cur.map Report.av)]) (obs := [IntKind.i64.wrap (((pre.length : Nat) : Int) + 1) = (((pre ++ [x]).length : Nat) : Int)]) (by kernel_rfl) ((next_len hl hn')) fun ac wd hS => ?_
              refine runs_inLoop ?_
              exact ihx _ _ (pre ++ [x]) cur (next_eq hl) (by have hins : insRep out (fixR l x) = cur := (by rw [hcf]; exact (by rw [hir, hc]; have h9 := hb3; simp only [insRR, h9, Bool.false_eq_true, if_false])); rw [hr]; simp only [List.foldl_cons, standStep, hb1, hb2, Bool.and_true, Bool.true_and, Bool.and_false, Bool.false_and, Bool.or_true, Bool.true_or, Bool.or_false, Bool.false_or, Bool.not_true, Bool.not_false, Bool.false_eq_true, if_true, if_false, hins]) (by have h9 := congrArg List.length hl; simp at h9; have h8 := congrArg List.length hc; simp at h8; simp at hk; have h7 := congrArg List.length hir; rw [insRep_len, insRR_len] at h7; simp at h7; constructor <;> (try simp) <;> omega) (hS.sel [0] [0, 3, 4] (by kernel_rfl))
        · skip
          refine reg [(1, .dec true)] [0, 3, 4, 5, 6, 33] hG hS (env := [(0, .sl (l.map Report.av)), (3, .osl 0), (4, .int .i64 ((pre.length : Nat) : Int)), (5, .box 1 0), (6, .int .i64 (bestI (correctedO l x.Id x))), (33, .bool true)]) (own := [.row 73 8 (out.map Report.av), .box none 73 [.int .i64 x.Id, .int .i64 x.Source, .int .i64 x.Account, .int .i64 x.Made, .int .i64 x.About, .int .u8 (U8.i x.Kind), .int .i64 x.Cents, .int .i64 x.Of]]) (obs := [decide ((bestI (correctedO l x.Id x)) ≥ 0) = true]) (by kernel_rfl) (hcb) fun ac wd hS => ?_
          refine cond_yes hS (c := true) (by kernel_rfl) rfl ?_
          refine drw [(3, .av (.int .i64 (atI l (bestI (correctedO l x.Id x))))), (4, .av (Report.av c)), (10, .av (.int .i64 (atI l (bestI (correctedO l x.Id x))))), (11, .av (Report.av c))] [0, 3, 4, 5] hG hS (env := [(0, .sl (l.map Report.av)), (3, .osl 0), (4, .int .i64 ((pre.length : Nat) : Int)), (5, .box 1 0)]) (own := [.row 73 8 (out.map Report.av), .box none 73 [.int .i64 x.Id, .int .i64 x.Source, .int .i64 x.Account, .int .i64 x.Made, .int .i64 c.About, .int .u8 (U8.i x.Kind), .int .i64 c.Cents, .int .i64 x.Of]]) (obs := [CallA Tryz.prog GT 48 [.sl (l.map Report.av), .int .i64 (bestI (correctedO l x.Id x))] (.int .i64 (atI l (bestI (correctedO l x.Id x)))), 0 ≤ (atI l (bestI (correctedO l x.Id x)) : Int) ∧ (l.map Report.av)[(atI l (bestI (correctedO l x.Id x)) : Int).toNat]? = some (Report.av c), CallA Tryz.prog GT 48 [.sl (l.map Report.av), .int .i64 (bestI (correctedO l x.Id x))] (.int .i64 (atI l (bestI (correctedO l x.Id x)))), 0 ≤ (atI l (bestI (correctedO l x.Id x)) : Int) ∧ (l.map Report.av)[(atI l (bestI (correctedO l x.Id x)) : Int).toNat]? = some (Report.av c)]) (by kernel_rfl) (by kernel_rfl) (⟨(at_ok _ _ hn'), (at_idx hca hci), (at_ok _ _ hn'), (at_idx hca hci)⟩) fun ac wd hS => ?_
          refine runs_seq ?_
          refine reg [(3, .lst ((out ++ [(fixWith x c)]).map Report.av))] [0, 3, 4] hG hS (env := [(0, .sl (l.map Report.av)), (3, .osl 2), (4, .int .i64 ((pre.length : Nat) : Int))]) (own := [.gone, .box none 73 [.int .i64 x.Id, .int .i64 x.Source, .int .i64 x.Account, .int .i64 x.Made, .int .i64 c.About, .int .u8 (U8.i x.Kind), .int .i64 c.Cents, .int .i64 x.Of], .row 73 8 ((out ++ [(fixWith x c)]).map Report.av)]) (obs := [AppOK 8 (out.map Report.av) [.agg [.int .i64 x.Id, .int .i64 x.Source, .int .i64 x.Account, .int .i64 x.Made, .int .i64 c.About, .int .u8 (U8.i x.Kind), .int .i64 c.Cents, .int .i64 x.Of]] ∧ (out ++ [(fixWith x c)]).map Report.av = (out.map Report.av) ++ [.agg [.int .i64 x.Id, .int .i64 x.Source, .int .i64 x.Account, .int .i64 x.Made, .int .i64 c.About, .int .u8 (U8.i x.Kind), .int .i64 c.Cents, .int .i64 x.Of]]]) (by kernel_rfl) (⟨app_ok1 (by have h9 := congrArg List.length hl; simp at h9; omega) rfl rfl, (by rw [List.map_append]; rfl)⟩) fun ac wd hS => ?_
          refine runs_seq ?_
          refine reg [(1, .is (((out ++ [(fixWith x c)]).length : Nat) : Int)), (2, .is ((out.reverse.length : Nat) : Int))] [0, 3, 4, 7] hG hS (env := [(0, .sl (l.map Report.av)), (3, .osl 2), (4, .int .i64 ((pre.length : Nat) : Int)), (7, .int .i64 ((out.reverse.length : Nat) : Int))]) (own := [.gone, .box none 73 [.int .i64 x.Id, .int .i64 x.Source, .int .i64 x.Account, .int .i64 x.Made, .int .i64 c.About, .int .u8 (U8.i x.Kind), .int .i64 c.Cents, .int .i64 x.Of], .row 73 8 ((out ++ [(fixWith x c)]).map Report.av)]) (obs := [(((out ++ [(fixWith x c)]).map Report.av).length : Int) = (((out ++ [(fixWith x c)]).length : Nat) : Int), IntKind.i64.wrap ((((out ++ [(fixWith x c)]).length : Nat) : Int) - 1) = ((out.reverse.length : Nat) : Int)]) (by kernel_rfl) (⟨len_map, (by have h9 := congrArg List.length hl; simp at h9; show _ = _; rw [wrap_i64 (by simp <;> omega) (by simp <;> omega)]; simp)⟩) fun ac wd hS => ?_
          refine runs_block ?_
          refine runs_loop ?_
          have hinv : ∃ (rp suf cur : List Report) (k : Nat), k = rp.length ∧ k ≤ 65536 ∧ cur = rp.reverse ++ (fixWith x c) :: suf ∧ insRep out (fixWith x c) = insRR (fixWith x c) rp suf ∧ Sat B ⟨Tryz.f85.ntmps, [(0, .sl (l.map Report.av)), (3, .osl 0), (4, .int .i64 ((pre.length : Nat) : Int)), (7, .int .i64 ((k : Nat) : Int))], [.row 73 8 (cur.map Report.av)]⟩ ac wd := ⟨out.reverse, [], out ++ [(fixWith x c)], out.reverse.length, rfl, by have h9 := congrArg List.length hl; simp at h9 ⊢; omega, by simp, rfl, hS.sel [2] [0, 3, 4, 7] (by kernel_rfl)⟩
          clear hS
          obtain ⟨rp, suf, cur, k, hk, hkb, hc, hir, hS⟩ := hinv
          induction rp generalizing suf cur k ac wd with
          | nil =>
            refine runs_seq ?_
            refine runs_seq ?_
            refine drw [(2, .dec false)] [0, 3, 4, 7, 70] hG hS (env := [(0, .sl (l.map Report.av)), (3, .osl 0), (4, .int .i64 ((pre.length : Nat) : Int)), (7, .int .i64 ((k : Nat) : Int)), (70, .bool false)]) (own := [.row 73 8 (cur.map Report.av)]) (obs := [decide (((k : Nat) : Int) > 0) = false]) (by kernel_rfl) (by kernel_rfl) ((by subst hk; rfl)) fun ac wd hS => ?_
            refine cond_no hS (c := false) (by kernel_rfl) rfl ?_
            refine runs_exit (by rfl) ?_
            refine runs_inBlock ?_
            refine reg [(1, .is (((pre ++ [x]).length : Nat) : Int))] [0, 3, 4] hG hS (env := [(0, .sl (l.map Report.av)), (3, .osl 0), (4, .int .i64 (((pre ++ [x]).length : Nat) : Int))]) (own := [.row 73 8 (cur.map Report.av)]) (obs := [IntKind.i64.wrap (((pre.length : Nat) : Int) + 1) = (((pre ++ [x]).length : Nat) : Int)]) (by kernel_rfl) ((next_len hl hn')) fun ac wd hS => ?_
            refine runs_inLoop ?_
            exact ihx _ _ (pre ++ [x]) cur (next_eq hl) (by have hins : insRep out (fixR l x) = cur := (by rw [hcf]; exact (by rw [hir, hc]; rfl)); rw [hr]; simp only [List.foldl_cons, standStep, hb1, hb2, Bool.and_true, Bool.true_and, Bool.and_false, Bool.false_and, Bool.or_true, Bool.true_or, Bool.or_false, Bool.false_or, Bool.not_true, Bool.not_false, Bool.false_eq_true, if_true, if_false, hins]) (by have h9 := congrArg List.length hl; simp at h9; have h8 := congrArg List.length hc; simp at h8; simp at hk; have h7 := congrArg List.length hir; rw [insRep_len, insRR_len] at h7; simp at h7; constructor <;> (try simp) <;> omega) (hS.sel [0] [0, 3, 4] (by kernel_rfl))
          | cons y rp ih =>
            refine runs_seq ?_
            refine runs_seq ?_
            rcases Bool.eq_false_or_eq_true (beforeB (fixWith x c) y) with hb4 | hb4
            · skip
              refine drw [(2, .dec true), (6, .el k 0 (Report.av (fixWith x c)) []), (9, .is ((rp.length : Nat) : Int)), (11, .el rp.length 0 (Report.av y) []), (12, .av (.bool (beforeB (fixWith x c) y))), (13, .dec true)] [0, 3, 4, 7, 70] hG hS (env := [(0, .sl (l.map Report.av)), (3, .osl 0), (4, .int .i64 ((pre.length : Nat) : Int)), (7, .int .i64 ((k : Nat) : Int)), (70, .bool true)]) (own := [.row 73 8 (cur.map Report.av)]) (obs := [decide (((k : Nat) : Int) > 0) = true, 0 ≤ (((k : Nat) : Int) : Int) ∧ (((k : Nat) : Int) : Int).toNat < (cur.map Report.av).length, (((k : Nat) : Int) : Int).toNat * 8 = k * 8 + 0 ∧ (cur.map Report.av)[k]? = some (Report.av (fixWith x c)), IntKind.i64.wrap (((k : Nat) : Int) - 1) = ((rp.length : Nat) : Int), 0 ≤ (((rp.length : Nat) : Int) : Int) ∧ (((rp.length : Nat) : Int) : Int).toNat < (cur.map Report.av).length, (((rp.length : Nat) : Int) : Int).toNat * 8 = rp.length * 8 + 0 ∧ (cur.map Report.av)[rp.length]? = some (Report.av y), CallA Tryz.prog GT 123 [Report.av (fixWith x c), Report.av y] (.bool (beforeB (fixWith x c) y)), beforeB (fixWith x c) y = true]) (by kernel_rfl) (by kernel_rfl) (⟨(by subst hk; simp <;> omega), (putR_i1 hk hc), (putR_g1 hk hc), (putR_k hk hkb), (putR_i2 hk hc), (putR_g2 hc), (before_ok _ _), hb4⟩) fun ac wd hS => ?_
              refine cond_yes hS (c := true) (by kernel_rfl) rfl ?_
              refine runs_skip ?_
              refine runs_seq ?_
              refine runs_block ?_
              refine drw [(4, .is ((rp.length : Nat) : Int)), (7, .is ((rp.length : Nat) : Int)), (9, .el rp.length 0 (Report.av y) []), (13, .el k 0 (Report.av (fixWith x c)) []), (15, .el k 0 (Report.av (fixWith x c)) ((rp.reverse ++ y :: y :: suf).map Report.av)), (17, .el rp.length 0 (Report.av y) ((rp.reverse ++ (fixWith x c) :: y :: suf).map Report.av))] [0, 3, 4, 7] hG hS (env := [(0, .sl (l.map Report.av)), (3, .osl 0), (4, .int .i64 ((pre.length : Nat) : Int)), (7, .int .i64 ((k : Nat) : Int))]) (own := [.row 73 8 ((rp.reverse ++ (fixWith x c) :: y :: suf).map Report.av)]) (obs := [IntKind.i64.wrap (((k : Nat) : Int) - 1) = ((rp.length : Nat) : Int), IntKind.i64.wrap (((k : Nat) : Int) - 1) = ((rp.length : Nat) : Int), 0 ≤ (((rp.length : Nat) : Int) : Int) ∧ (((rp.length : Nat) : Int) : Int).toNat < (cur.map Report.av).length, (((rp.length : Nat) : Int) : Int).toNat * 8 = rp.length * 8 + 0 ∧ (cur.map Report.av)[rp.length]? = some (Report.av y), 0 ≤ (((k : Nat) : Int) : Int) ∧ (((k : Nat) : Int) : Int).toNat < (cur.map Report.av).length, (((k : Nat) : Int) : Int).toNat * 8 = k * 8 + 0 ∧ (cur.map Report.av)[k]? = some (Report.av (fixWith x c)), 0 ≤ (((k : Nat) : Int) : Int) ∧ (((k : Nat) : Int) : Int).toNat < (cur.map Report.av).length, (((k : Nat) : Int) : Int).toNat * 8 = k * 8 + 0 ∧ (cur.map Report.av)[k]? = some (Report.av (fixWith x c)) ∧ (rp.reverse ++ y :: y :: suf).map Report.av = (cur.map Report.av).set k (.agg [.int .i64 y.Id, .int .i64 y.Source, .int .i64 y.Account, .int .i64 y.Made, .int .i64 y.About, .int .u8 (U8.i y.Kind), .int .i64 y.Cents, .int .i64 y.Of]), 0 ≤ (((rp.length : Nat) : Int) : Int) ∧ (((rp.length : Nat) : Int) : Int).toNat < ((rp.reverse ++ y :: y :: suf).map Report.av).length, (((rp.length : Nat) : Int) : Int).toNat * 8 = rp.length * 8 + 0 ∧ ((rp.reverse ++ y :: y :: suf).map Report.av)[rp.length]? = some (Report.av y) ∧ (rp.reverse ++ (fixWith x c) :: y :: suf).map Report.av = ((rp.reverse ++ y :: y :: suf).map Report.av).set rp.length (.agg [.int .i64 ((fixWith x c).Id), .int .i64 ((fixWith x c).Source), .int .i64 ((fixWith x c).Account), .int .i64 ((fixWith x c).Made), .int .i64 ((fixWith x c).About), .int .u8 (U8.i (fixWith x c).Kind), .int .i64 ((fixWith x c).Cents), .int .i64 ((fixWith x c).Of)])]) (by kernel_rfl) (by kernel_rfl) (⟨(putR_k hk hkb), (putR_k hk hkb), (putR_i2 hk hc), (putR_g2 hc), (putR_i1 hk hc), (putR_g1 hk hc), (putR_i1 hk hc), (putR_s1 hk hc), putR_i3, putR_s2⟩) fun ac wd hS => ?_
              refine runs_inBlock ?_
              refine reg [(1, .is ((rp.length : Nat) : Int))] [0, 3, 4, 7] hG hS (env := [(0, .sl (l.map Report.av)), (3, .osl 0), (4, .int .i64 ((pre.length : Nat) : Int)), (7, .int .i64 ((rp.length : Nat) : Int))]) (own := [.row 73 8 ((rp.reverse ++ (fixWith x c) :: y :: suf).map Report.av)]) (obs := [IntKind.i64.wrap (((k : Nat) : Int) - 1) = ((rp.length : Nat) : Int)]) (by kernel_rfl) ((putR_k hk hkb)) fun ac wd hS => ?_
              refine runs_inLoop ?_
              exact ih _ _ (y :: suf) (rp.reverse ++ (fixWith x c) :: y :: suf) rp.length rfl (by simp at hk; omega) rfl (by rw [hir]; have h9 := hb4; simp only [insRR, h9, if_true]) (hS.sel [0] [0, 3, 4, 7] (by kernel_rfl))
            · skip
              refine drw [(2, .dec true), (6, .el k 0 (Report.av (fixWith x c)) []), (9, .is ((rp.length : Nat) : Int)), (11, .el rp.length 0 (Report.av y) []), (12, .av (.bool (beforeB (fixWith x c) y))), (13, .dec false)] [0, 3, 4, 7, 70] hG hS (env := [(0, .sl (l.map Report.av)), (3, .osl 0), (4, .int .i64 ((pre.length : Nat) : Int)), (7, .int .i64 ((k : Nat) : Int)), (70, .bool false)]) (own := [.row 73 8 (cur.map Report.av)]) (obs := [decide (((k : Nat) : Int) > 0) = true, 0 ≤ (((k : Nat) : Int) : Int) ∧ (((k : Nat) : Int) : Int).toNat < (cur.map Report.av).length, (((k : Nat) : Int) : Int).toNat * 8 = k * 8 + 0 ∧ (cur.map Report.av)[k]? = some (Report.av (fixWith x c)), IntKind.i64.wrap (((k : Nat) : Int) - 1) = ((rp.length : Nat) : Int), 0 ≤ (((rp.length : Nat) : Int) : Int) ∧ (((rp.length : Nat) : Int) : Int).toNat < (cur.map Report.av).length, (((rp.length : Nat) : Int) : Int).toNat * 8 = rp.length * 8 + 0 ∧ (cur.map Report.av)[rp.length]? = some (Report.av y), CallA Tryz.prog GT 123 [Report.av (fixWith x c), Report.av y] (.bool (beforeB (fixWith x c) y)), beforeB (fixWith x c) y = false]) (by kernel_rfl) (by kernel_rfl) (⟨(by subst hk; simp <;> omega), (putR_i1 hk hc), (putR_g1 hk hc), (putR_k hk hkb), (putR_i2 hk hc), (putR_g2 hc), (before_ok _ _), hb4⟩) fun ac wd hS => ?_
              refine cond_no hS (c := false) (by kernel_rfl) rfl ?_
              refine runs_exit (by rfl) ?_
              refine runs_inBlock ?_
              refine reg [(1, .is (((pre ++ [x]).length : Nat) : Int))] [0, 3, 4] hG hS (env := [(0, .sl (l.map Report.av)), (3, .osl 0), (4, .int .i64 (((pre ++ [x]).length : Nat) : Int))]) (own := [.row 73 8 (cur.map Report.av)]) (obs := [IntKind.i64.wrap (((pre.length : Nat) : Int) + 1) = (((pre ++ [x]).length : Nat) : Int)]) (by kernel_rfl) ((next_len hl hn')) fun ac wd hS => ?_
              refine runs_inLoop ?_
              exact ihx _ _ (pre ++ [x]) cur (next_eq hl) (by have hins : insRep out (fixR l x) = cur := (by rw [hcf]; exact (by rw [hir, hc]; have h9 := hb4; simp only [insRR, h9, Bool.false_eq_true, if_false])); rw [hr]; simp only [List.foldl_cons, standStep, hb1, hb2, Bool.and_true, Bool.true_and, Bool.and_false, Bool.false_and, Bool.or_true, Bool.true_or, Bool.or_false, Bool.false_or, Bool.not_true, Bool.not_false, Bool.false_eq_true, if_true, if_false, hins]) (by have h9 := congrArg List.length hl; simp at h9; have h8 := congrArg List.length hc; simp at h8; simp at hk; have h7 := congrArg List.length hir; rw [insRep_len, insRR_len] at h7; simp at h7; constructor <;> (try simp) <;> omega) (hS.sel [0] [0, 3, 4] (by kernel_rfl))
end Go.Fw

set_option maxRecDepth 20000
namespace Go.Fw
open Go.Proofs

theorem insR_len (n : Int) : ∀ rp suf : List Int, (insR n rp suf).length = rp.length + suf.length + 1
  | [], suf => by simp [insR]
  | y :: rp, suf => by
    unfold insR
    split
    · rw [insR_len]; simp; omega
    · simp; omega
theorem insL_len (l : List Int) (n : Int) : (insL l n).length = l.length + 1 := by simp [insL, insR_len]
end Go.Fw

set_option maxRecDepth 20000
namespace Go.Fw
open Go.Proofs

end Go.Fw

