/- The law TermLasts returns true at every input and leaves the input as it was. -/
import Derived.Test.YtmhglopmmpedfaaGreatDoorM5
import Derived.OpenShut
import Derived.Test.YtmhglopmmpedfaaGreatDoorCards
import Derived.Test.YtmhglopmmpedfaaGreatDoorTie
import Derived.SevenTiedAt
set_option linter.unusedSimpArgs false
set_option linter.unusedVariables false
set_option linter.unnecessarySimpa false
set_option linter.all false
set_option maxRecDepth 20000
namespace Go.Fw
open Go.Proofs

structure LInv (K done L : List Report) : Prop where
  eq : L = (done.filter factB).map (fixP K)
  nd : NodupR L
  len : L.length ≤ done.length
theorem LInv.yes {K done L : List Report} {r X : Report} (h : LInv K done L) (hX : X = fixP K r) (hf : factB r = true) (hne : ∀ x ∈ done, x.Id ≠ r.Id) : LInv K (done ++ [r]) (L ++ [X]) ∧ findK Report.Id L X.Id = none := by
  have hid : X.Id = r.Id := by rw [hX]; exact (fixP_id K r).1
  have hnone : findK Report.Id L X.Id = none := by
    refine List.find?_eq_none.2 fun y hy => ?_
    rw [h.eq] at hy
    obtain ⟨z, hz, rfl⟩ := List.mem_map.1 hy
    have := hne z (List.mem_filter.1 hz).1
    rw [hid]
    simpa [(fixP_id K z).1] using this
  refine ⟨⟨?_, ?_, ?_⟩, hnone⟩
  · rw [h.eq, hX]; simp [List.filter_append, hf]
  · have : putK Report.Id L X = L ++ [X] := by unfold putK; rw [hnone]
    rw [← this]; exact putK_nodup (kf := Report.Id) h.nd X
  · simp; have := h.len; omega
theorem LInv.no {K done L : List Report} {r : Report} (h : LInv K done L) (hf : factB r = false) : LInv K (done ++ [r]) L :=
  ⟨by rw [h.eq]; simp [List.filter_append, hf], h.nd, by simp; have := h.len; omega⟩
theorem fix_yes {K : List Report} {r : Report} (h : (getM (fixedL K) r.Id).isSome = true) : fixWith r ((getR K ((getM (fixedL K) r.Id).getD 0)).getD zeroR) = fixP K r := by unfold fixP; rw [if_pos h]
theorem fix_no {K : List Report} {r : Report} (h : (getM (fixedL K) r.Id).isSome = false) : r = fixP K r := by unfold fixP; rw [if_neg (by rw [h]; simp)]
structure DInv (L : List Report) (dg : IM) (D : List Report) : Prop where
  nd : NodupR D
  mem : ∀ x, x ∈ D ↔ x ∈ L ∧ ∀ p ∈ dg, x.Id ≠ p.1
  len : D.length ≤ L.length
theorem DInv.step {L D : List Report} {dg : IM} (h : DInv L dg D) (p : Int × Int) : DInv L (dg ++ [p]) (delK Report.Id D p.1) := by
  refine ⟨?_, fun x => ?_, ?_⟩
  · exact (List.filter_sublist.map Report.Id).nodup h.nd
  · unfold delK
    rw [List.mem_filter, h.mem]
    constructor
    · rintro ⟨⟨h1, h2⟩, h3⟩
      refine ⟨h1, fun q hq => ?_⟩
      rcases List.mem_append.1 hq with hq | hq
      · exact h2 q hq
      · simp at hq; subst hq; simpa using h3
    · rintro ⟨h1, h2⟩
      exact ⟨⟨h1, fun q hq => h2 q (by simp [hq])⟩, by simpa using h2 p (by simp)⟩
  · have := List.length_filter_le (fun a : Report => !(a.Id == p.1)) D
    unfold delK; have := h.len; omega
theorem done_len {α : Type} {done left K : List α} (h : (done ++ left).Perm K) : done.length ≤ K.length := by
  rw [← h.length_eq]; simp
theorem facts_iter (K : List Report) (hK : Good K) (hn : K.length ≤ 60000) : IterA Tryz.prog GT 108 [] [.fp [.fm (K.map idk) (K.map Report.av), .fm ((goneL K).map k1) ((goneL K).map v1), .fm ((fixedL K).map k1) ((fixedL K).map v1)] 0] ((standingL K).map fun r => [Report.av r]) := by
  refine iterA_of Tryz.func108 rfl (by simp [Tryz.f108]) rfl fun Ly I B ac hst hyr hI hB hBd hG hS => ?_
  refine runs_seq ?_
  refine reg [] [0, 1, 3] hG hS (env := [(0, .fn (.yield Ly) [] []), (1, .fp [.fm (K.map idk) (K.map Report.av), .fm ((goneL K).map k1) ((goneL K).map v1), .fm ((fixedL K).map k1) ((fixedL K).map v1)] 0), (3, .mp 0)]) (own := [.map [] []]) (obs := []) (by kernel_rfl) (trivial) fun ac wd hS => ?_
  refine runs_seq ?_
  refine runs_seq ?_
  refine reg [] [0, 1, 3, 18] hG hS (env := [(0, .fn (.yield Ly) [] []), (1, .fp [.fm (K.map idk) (K.map Report.av), .fm ((goneL K).map k1) ((goneL K).map v1), .fm ((fixedL K).map k1) ((fixedL K).map v1)] 0), (3, .mp 0), (18, .itr 1)]) (own := [.map [] [], .iter (K.map idk) (K.map Report.av) none]) (obs := []) (by kernel_rfl) (trivial) fun ac wd hS => ?_
  refine runs_block ?_
  refine runs_loop ?_
  have hinv : ∃ (left done : List Report) (cur : Option (AV × AV)) (L : List Report), (done ++ left).Perm K ∧ (LInv K done L) ∧ Sat B ⟨Tryz.f108.ntmps, [(0, .fn (.yield Ly) [] []), (1, .fp [.fm (K.map idk) (K.map Report.av), .fm ((goneL K).map k1) ((goneL K).map v1), .fm ((fixedL K).map k1) ((fixedL K).map v1)] 0), (3, .mp 0), (18, .itr 1)], [.map (L.map idk) (L.map Report.av), .iter (left.map idk) (left.map Report.av) cur]⟩ ac wd := ⟨K, [], none, [], List.Perm.refl _, ⟨rfl, by simp [NodupR], by simp⟩, hS.sel [0, 1] [0, 1, 3, 18] (by kernel_rfl)⟩
  clear hS
  obtain ⟨left, done, cur, L, hperm, hL, hS⟩ := hinv
  generalize hmm : left.length = mm
  induction mm using Nat.strongRecOn generalizing ac wd left done cur L with
  | _ mm ihm =>
    refine runs_seq ?_
    refine region_nextL (left := left) (kf := idk) (vf := Report.av) hS rfl rfl rfl rfl (by rfl) rfl rfl rfl ?_ ?_
    · intro hleft ac wd hS
      have hdone : done.Perm K := by rw [hleft, List.append_nil] at hperm; exact hperm
      have hLlen : L.length ≤ K.length := Nat.le_trans hL.len (by rw [hdone.length_eq]; exact Nat.le_refl _)
      refine regT [] [0, 1, 3, 18, 20] hG hS (env := [(0, .fn (.yield Ly) [] []), (1, .fp [.fm (K.map idk) (K.map Report.av), .fm ((goneL K).map k1) ((goneL K).map v1), .fm ((fixedL K).map k1) ((fixedL K).map v1)] 0), (3, .mp 0), (18, .itr 1), (20, .bool false)]) (own := [.map (L.map idk) (L.map Report.av), .iter (left.map idk) (left.map Report.av) cur]) (obs := []) (by kernel_rfl) (by rfl) (trivial) fun ac wd hS => ?_
      refine runs_seq ?_
      refine cond_no hS (c := false) (by kernel_rfl) rfl ?_
      refine runs_exit (by rfl) ?_
      refine runs_seq ?_
      refine runs_seq ?_
      refine reg [] [0, 3, 53] hG hS (env := [(0, .fn (.yield Ly) [] []), (3, .mp 0), (53, .itr 2)]) (own := [.map (L.map idk) (L.map Report.av), .iter (left.map idk) (left.map Report.av) cur, .iter ((goneL K).map k1) ((goneL K).map v1) none]) (obs := []) (by kernel_rfl) (trivial) fun ac wd hS => ?_
      refine runs_block ?_
      refine runs_loop ?_
      have hinv : ∃ (left2 done2 : List (Int × Int)) (cur2 : Option (AV × AV)) (D : List Report), (done2 ++ left2).Perm (goneL K) ∧ (DInv L done2 D) ∧ Sat B ⟨Tryz.f108.ntmps, [(0, .fn (.yield Ly) [] []), (3, .mp 0), (53, .itr 2)], [.map (D.map idk) (D.map Report.av), .iter (left.map idk) (left.map Report.av) cur, .iter (left2.map k1) (left2.map v1) cur2]⟩ ac wd := ⟨goneL K, [], none, L, List.Perm.refl _, ⟨hL.nd, fun x => by simp, Nat.le_refl _⟩, hS.sel [0, 1, 2] [0, 3, 53] (by kernel_rfl)⟩
      clear hS
      obtain ⟨left2, done2, cur2, D, hperm2, hD, hS⟩ := hinv
      generalize hmm2 : left2.length = mm2
      induction mm2 using Nat.strongRecOn generalizing ac wd left2 done2 cur2 D with
      | _ mm2 ihm2 =>
        refine runs_seq ?_
        refine region_nextL (left := left2) (kf := k1) (vf := v1) hS rfl rfl rfl rfl (by rfl) rfl rfl rfl ?_ ?_
        · intro hleft2 ac wd hS
          have hdone2 : done2.Perm (goneL K) := by rw [hleft2, List.append_nil] at hperm2; exact hperm2
          refine regT [] [0, 3, 53, 55] hG hS (env := [(0, .fn (.yield Ly) [] []), (3, .mp 0), (53, .itr 2), (55, .bool false)]) (own := [.map (D.map idk) (D.map Report.av), .iter (left.map idk) (left.map Report.av) cur, .iter (left2.map k1) (left2.map v1) cur2]) (obs := []) (by kernel_rfl) (by rfl) (trivial) fun ac wd hS => ?_
          refine runs_seq ?_
          refine cond_no hS (c := false) (by kernel_rfl) rfl ?_
          refine runs_exit (by rfl) ?_
          refine runs_seq ?_
          refine reg [(0, .row 73 8)] [0, 3, 9] hG hS (env := [(0, .fn (.yield Ly) [] []), (3, .mp 0), (9, .osl 3)]) (own := [.map (D.map idk) (D.map Report.av), .iter (left.map idk) (left.map Report.av) cur, .iter (left2.map k1) (left2.map v1) cur2, .row 73 8 []]) (obs := []) (by kernel_rfl) (trivial) fun ac wd hS => ?_
          refine runs_seq ?_
          refine runs_seq ?_
          replace hS : Sat B ⟨Tryz.f108.ntmps, [(0, .fn (.yield Ly) [] []), (3, .fm (D.map idk) (D.map Report.av)), (9, .osl 3)], [.gone, .iter (left.map idk) (left.map Report.av) cur, .iter (left2.map k1) (left2.map v1) cur2, .row 73 8 []]⟩ ac wd := hS.frz hB 0 (by kernel_rfl)
          refine reg [] [0, 9, 61] hG hS (env := [(0, .fn (.yield Ly) [] []), (9, .osl 3), (61, .itr 4)]) (own := [.gone, .iter (left.map idk) (left.map Report.av) cur, .iter (left2.map k1) (left2.map v1) cur2, .row 73 8 [], .iter (D.map idk) (D.map Report.av) none]) (obs := []) (by kernel_rfl) (trivial) fun ac wd hS => ?_
          refine runs_block ?_
          refine runs_loop ?_
          have hinv : ∃ (left4 done4 : List Report) (cur4 : Option (AV × AV)), (done4 ++ left4).Perm D ∧ Sat B ⟨Tryz.f108.ntmps, [(0, .fn (.yield Ly) [] []), (9, .osl 3), (61, .itr 4)], [.gone, .iter (left.map idk) (left.map Report.av) cur, .iter (left2.map k1) (left2.map v1) cur2, .row 73 8 (done4.map Report.av), .iter (left4.map idk) (left4.map Report.av) cur4]⟩ ac wd := ⟨D, [], none, List.Perm.refl _, hS.sel [0, 1, 2, 3, 4] [0, 9, 61] (by kernel_rfl)⟩
          clear hS
          obtain ⟨left4, done4, cur4, hperm4, hS⟩ := hinv
          generalize hmm4 : left4.length = mm4
          induction mm4 using Nat.strongRecOn generalizing ac wd left4 done4 cur4 with
          | _ mm4 ihm4 =>
            refine runs_seq ?_
            refine region_nextL (left := left4) (kf := idk) (vf := Report.av) hS rfl rfl rfl rfl (by rfl) rfl rfl rfl ?_ ?_
            · intro hleft4 ac wd hS
              have hdone4 : done4.Perm D := by rw [hleft4, List.append_nil] at hperm4; exact hperm4
              have hstand : (standingL K).Perm done4 := left_perm hK hdone hL.eq hdone2 hD.nd hD.mem hdone4
              refine regT [] [0, 9, 61, 63] hG hS (env := [(0, .fn (.yield Ly) [] []), (9, .osl 3), (61, .itr 4), (63, .bool false)]) (own := [.gone, .iter (left.map idk) (left.map Report.av) cur, .iter (left2.map k1) (left2.map v1) cur2, .row 73 8 (done4.map Report.av), .iter (left4.map idk) (left4.map Report.av) cur4]) (obs := []) (by kernel_rfl) (by rfl) (trivial) fun ac wd hS => ?_
              refine runs_seq ?_
              refine cond_no hS (c := false) (by kernel_rfl) rfl ?_
              refine runs_exit (by rfl) ?_
              refine runs_seq ?_
              refine reg [(2, .opn (.osl 5) [.gone, .iter (left.map idk) (left.map Report.av) cur, .iter (left2.map k1) (left2.map v1) cur2, .gone, .iter (left4.map idk) (left4.map Report.av) cur4, .row 73 8 ((standingL K).map Report.av)]), (3, .is (((standingL K).length : Nat) : Int))] [0, 72, 73, 74] hG hS (env := [(0, .fn (.yield Ly) [] []), (72, .osl 5), (73, .int .i64 (((standingL K).length : Nat) : Int)), (74, .int .i64 0)]) (own := [.gone, .iter (left.map idk) (left.map Report.av) cur, .iter (left2.map k1) (left2.map v1) cur2, .gone, .iter (left4.map idk) (left4.map Report.av) cur4, .row 73 8 ((standingL K).map Report.av)]) (obs := [CallO Tryz.prog GT 109 [.osl 3, .sl [.fn (.func 110) [] [], .fn (.func 111) [] []]] [.gone, .iter (left.map idk) (left.map Report.av) cur, .iter (left2.map k1) (left2.map v1) cur2, .row 73 8 (done4.map Report.av), .iter (left4.map idk) (left4.map Report.av) cur4] (.osl 5) [.gone, .iter (left.map idk) (left.map Report.av) cur, .iter (left2.map k1) (left2.map v1) cur2, .gone, .iter (left4.map idk) (left4.map Report.av) cur4, .row 73 8 ((standingL K).map Report.av)], (((standingL K).map Report.av).length : Int) = (((standingL K).length : Nat) : Int)]) (by kernel_rfl) (⟨(callO_row (ordered_2 done4 (standingL K) (by have h9 := hdone4.length_eq; have h8 := hD.len; omega) (((hdone4.map Report.Id).nodup_iff).2 hD.nd) hstand (sorted_AI (standing_sorted K))) rfl rfl), len_map⟩) fun ac wd hS => ?_
              refine runs_block ?_
              refine runs_loop ?_
              replace hS : Sat B ⟨Tryz.f108.ntmps, [(0, .fn (.yield Ly) [] []), (72, .sl ((standingL K).map Report.av)), (73, .int .i64 (((standingL K).length : Nat) : Int)), (74, .int .i64 0)], [.gone, .iter (left.map idk) (left.map Report.av) cur, .iter (left2.map k1) (left2.map v1) cur2, .gone, .iter (left4.map idk) (left4.map Report.av) cur4, .gone]⟩ ac wd := hS.frz hB 5 (by kernel_rfl)
              have hlS : (standingL K).length ≤ 60000 := by have h9 := hstand.length_eq; have h7 := hdone4.length_eq; have h8 := hD.len; omega
              have hinv : ∃ (B2 : Base) (pre rest : List Report), B2.γ = [] ∧ B2.df = [] ∧ GOK GT B2.H ∧ standingL K = pre ++ rest ∧ I pre.length B2.w B2.H ∧ Sat B2 ⟨Tryz.f108.ntmps, [(0, .fn (.yield Ly) [] []), (72, .sl ((standingL K).map Report.av)), (73, .int .i64 (((standingL K).length : Nat) : Int)), (74, .int .i64 ((pre.length : Nat) : Int))], []⟩ ac wd := ⟨B, [], standingL K, hB, hBd, hG, rfl, hI, hS.sel [] [0, 72, 73, 74] (by kernel_rfl)⟩
              clear hS hI hB hBd hG
              obtain ⟨B2, pre, rest, hB, hBd, hG, hl, hIp, hS⟩ := hinv
              induction rest generalizing B2 ac wd pre with
              | nil =>
                rw [show ((standingL K).map fun r => [Report.av r]).length = pre.length from by rw [hl]; simp]
                refine runs_seq ?_
                refine reg [(0, .dec false)] [0, 72, 73, 74, 75] hG hS (env := [(0, .fn (.yield Ly) [] []), (72, .sl ((standingL K).map Report.av)), (73, .int .i64 (((standingL K).length : Nat) : Int)), (74, .int .i64 ((pre.length : Nat) : Int)), (75, .bool false)]) (own := []) (obs := [decide (((pre.length : Nat) : Int) < (((standingL K).length : Nat) : Int)) = false]) (by kernel_rfl) ((lt_no hl)) fun ac wd hS => ?_
                refine runs_seq ?_
                refine cond_no hS (c := false) (by kernel_rfl) rfl ?_
                refine runs_exit (by rfl) ?_
                exact (iter_ret (k := []) Tryz.func108 rfl hB hBd hS hst hIp rfl).2
              | cons x rest ih =>
                refine runs_seq ?_
                refine reg [(0, .dec true)] [0, 72, 73, 74, 75] hG hS (env := [(0, .fn (.yield Ly) [] []), (72, .sl ((standingL K).map Report.av)), (73, .int .i64 (((standingL K).length : Nat) : Int)), (74, .int .i64 ((pre.length : Nat) : Int)), (75, .bool true)]) (own := []) (obs := [decide (((pre.length : Nat) : Int) < (((standingL K).length : Nat) : Int)) = true]) (by kernel_rfl) ((lt_yes hl)) fun ac wd hS => ?_
                refine runs_seq ?_
                refine cond_yes hS (c := true) (by kernel_rfl) rfl ?_
                refine runs_skip ?_
                refine runs_seq ?_
                refine runs_block ?_
                refine runs_seq ?_
                refine reg [(0, .av (Report.av x))] [0, 72, 73, 74, 13] hG hS (env := [(0, .fn (.yield Ly) [] []), (72, .sl ((standingL K).map Report.av)), (73, .int .i64 (((standingL K).length : Nat) : Int)), (74, .int .i64 ((pre.length : Nat) : Int)), (13, .box 0 0)]) (own := [.box none 73 [.int .i64 x.Id, .int .i64 x.Source, .int .i64 x.Account, .int .i64 x.Made, .int .i64 x.About, .int .u8 (U8.i x.Kind), .int .i64 x.Cents, .int .i64 x.Of]]) (obs := [0 ≤ (((pre.length : Nat) : Int) : Int) ∧ ((standingL K).map Report.av : List AV)[(((pre.length : Nat) : Int) : Int).toNat]? = some (Report.av x)]) (by kernel_rfl) ((idx_ok hl)) fun ac wd hS => ?_
                refine runs_seq ?_
                refine regA [0, 1] [2, 3] [] [0, 72, 73, 74, 78, 79] hG hS rfl (env := [(0, .fn (.yield Ly) [] []), (72, .sl ((standingL K).map Report.av)), (73, .int .i64 (((standingL K).length : Nat) : Int)), (74, .int .i64 ((pre.length : Nat) : Int)), (78, .fn (.yield Ly) [] []), (79, Report.av x)]) (own := [.box none 73 [.int .i64 x.Id, .int .i64 x.Source, .int .i64 x.Account, .int .i64 x.Made, .int .i64 x.About, .int .u8 (U8.i x.Kind), .int .i64 x.Cents, .int .i64 x.Of]]) (obs := []) (by kernel_rfl) (by rfl) trivial fun ac wd hS => ?_
                refine op_yield (j := pre.length) (e := [Report.av x]) hS hB hBd hG hIp hst hyr (by rw [hl]; simp) rfl rfl rfl (by rfl) trivial rfl rfl rfl rfl ?_
                clear hS hIp hB hBd hG
                intro B ac hB hBd hG hIp hS
                refine regT [] [0, 72, 73, 74, 81] hG hS (env := [(0, .fn (.yield Ly) [] []), (72, .sl ((standingL K).map Report.av)), (73, .int .i64 (((standingL K).length : Nat) : Int)), (74, .int .i64 ((pre.length : Nat) : Int)), (81, .bool false)]) (own := []) (obs := []) (by kernel_rfl) (by rfl) trivial fun ac wd hS => ?_
                refine cond_no hS (c := false) (by kernel_rfl) rfl ?_
                refine runs_skip ?_
                refine runs_inBlock ?_
                refine reg [(0, .is (((pre ++ [x]).length : Nat) : Int))] [0, 72, 73, 74] hG hS (env := [(0, .fn (.yield Ly) [] []), (72, .sl ((standingL K).map Report.av)), (73, .int .i64 (((standingL K).length : Nat) : Int)), (74, .int .i64 (((pre ++ [x]).length : Nat) : Int))]) (own := []) (obs := [IntKind.i64.wrap (((pre.length : Nat) : Int) + 1) = (((pre ++ [x]).length : Nat) : Int)]) (by kernel_rfl) ((next_len hl (by omega))) fun ac wd hS => ?_
                refine runs_inLoop ?_
                exact ih (B2 := _) (ac := _) (wd := _) (pre := pre ++ [x]) hB hBd hG (next_eq hl) (by simpa using hIp) (hS.sel [] [0, 72, 73, 74] (by kernel_rfl))
            · intro lp4 lq4 r4 hmid4 ac wd hS
              have hperm24 := perm_mid hperm4 hmid4
              have hrK4 : r4 ∈ D := mem_left hperm4 hmid4
              have hlt4 : (lp4 ++ lq4).length < mm4 := by rw [← hmm4, hmid4]; simp
              refine regT [] [0, 9, 61, 63] hG hS (env := [(0, .fn (.yield Ly) [] []), (9, .osl 3), (61, .itr 4), (63, .bool true)]) (own := [.gone, .iter (left.map idk) (left.map Report.av) cur, .iter (left2.map k1) (left2.map v1) cur2, .row 73 8 (done4.map Report.av), .iter ((lp4 ++ lq4).map idk) ((lp4 ++ lq4).map Report.av) (some (.int .i64 r4.Id, Report.av r4))]) (obs := []) (by kernel_rfl) (by rfl) (trivial) fun ac wd hS => ?_
              refine runs_seq ?_
              refine cond_yes hS (c := true) (by kernel_rfl) rfl ?_
              refine runs_skip ?_
              refine runs_block ?_
              refine runs_seq ?_
              refine reg [] [0, 9, 61, 11] hG hS (env := [(0, .fn (.yield Ly) [] []), (9, .osl 3), (61, .itr 4), (11, .box 5 0)]) (own := [.gone, .iter (left.map idk) (left.map Report.av) cur, .iter (left2.map k1) (left2.map v1) cur2, .row 73 8 (done4.map Report.av), .iter ((lp4 ++ lq4).map idk) ((lp4 ++ lq4).map Report.av) (some (.int .i64 r4.Id, Report.av r4)), .box none 73 [.int .i64 r4.Id, .int .i64 r4.Source, .int .i64 r4.Account, .int .i64 r4.Made, .int .i64 r4.About, .int .u8 (U8.i r4.Kind), .int .i64 r4.Cents, .int .i64 r4.Of]]) (obs := []) (by kernel_rfl) (trivial) fun ac wd hS => ?_
              refine reg [(3, .lst ((done4 ++ [r4]).map Report.av))] [0, 9, 61] hG hS (env := [(0, .fn (.yield Ly) [] []), (9, .osl 6), (61, .itr 4)]) (own := [.gone, .iter (left.map idk) (left.map Report.av) cur, .iter (left2.map k1) (left2.map v1) cur2, .gone, .iter ((lp4 ++ lq4).map idk) ((lp4 ++ lq4).map Report.av) (some (.int .i64 r4.Id, Report.av r4)), .box none 73 [.int .i64 r4.Id, .int .i64 r4.Source, .int .i64 r4.Account, .int .i64 r4.Made, .int .i64 r4.About, .int .u8 (U8.i r4.Kind), .int .i64 r4.Cents, .int .i64 r4.Of], .row 73 8 ((done4 ++ [r4]).map Report.av)]) (obs := [AppOK 8 (done4.map Report.av) [Report.av r4] ∧ (done4 ++ [r4]).map Report.av = (done4.map Report.av) ++ [Report.av r4]]) (by kernel_rfl) (⟨app_ok1 (by have h9 := done_len hperm4; have h8 := hD.len; omega) rfl rfl, by simp⟩) fun ac wd hS => ?_
              refine runs_inBlock ?_
              refine runs_inLoop ?_
              exact ihm4 _ hlt4 _ _ (lp4 ++ lq4) (done4 ++ [r4]) (some (.int .i64 r4.Id, Report.av r4)) hperm24 (hS.sel [0, 1, 2, 6, 4] [0, 9, 61] (by kernel_rfl)) rfl
        · intro lp2 lq2 p hmid2 ac wd hS
          have hperm22 := perm_mid hperm2 hmid2
          have hrK2 : p ∈ (goneL K) := mem_left hperm2 hmid2
          have hlt2 : (lp2 ++ lq2).length < mm2 := by rw [← hmm2, hmid2]; simp
          refine regT [] [0, 3, 53, 55] hG hS (env := [(0, .fn (.yield Ly) [] []), (3, .mp 0), (53, .itr 2), (55, .bool true)]) (own := [.map (D.map idk) (D.map Report.av), .iter (left.map idk) (left.map Report.av) cur, .iter ((lp2 ++ lq2).map k1) ((lp2 ++ lq2).map v1) (some (.int .i64 p.1, .int .i64 p.2))]) (obs := []) (by kernel_rfl) (by rfl) (trivial) fun ac wd hS => ?_
          refine runs_seq ?_
          refine cond_yes hS (c := true) (by kernel_rfl) rfl ?_
          refine runs_skip ?_
          refine runs_block ?_
          refine runs_seq ?_
          refine reg [] [0, 3, 53, 8] hG hS (env := [(0, .fn (.yield Ly) [] []), (3, .mp 0), (53, .itr 2), (8, .int .i64 p.1)]) (own := [.map (D.map idk) (D.map Report.av), .iter (left.map idk) (left.map Report.av) cur, .iter ((lp2 ++ lq2).map k1) ((lp2 ++ lq2).map v1) (some (.int .i64 p.1, .int .i64 p.2))]) (obs := []) (by kernel_rfl) (trivial) fun ac wd hS => ?_
          refine reg [(2, .put ((delK Report.Id D p.1).map idk) ((delK Report.Id D p.1).map Report.av))] [0, 3, 53] hG hS (env := [(0, .fn (.yield Ly) [] []), (3, .mp 0), (53, .itr 2)]) (own := [.map ((delK Report.Id D p.1).map idk) ((delK Report.Id D p.1).map Report.av), .iter (left.map idk) (left.map Report.av) cur, .iter ((lp2 ++ lq2).map k1) ((lp2 ++ lq2).map v1) (some (.int .i64 p.1, .int .i64 p.2))]) (obs := [DelOK Tryz.prog 3 (D.map idk) (D.map Report.av) (.int .i64 p.1) ((delK Report.Id D p.1).map idk) ((delK Report.Id D p.1).map Report.av)]) (by kernel_rfl) ((del_any (kf := Report.Id) (vf := Report.av) hD.nd p.1)) fun ac wd hS => ?_
          refine runs_inBlock ?_
          refine runs_inLoop ?_
          exact ihm2 _ hlt2 _ _ (lp2 ++ lq2) (done2 ++ [p]) (some (.int .i64 p.1, .int .i64 p.2)) (delK Report.Id D p.1) hperm22 (hD.step p) (hS.sel [0, 1, 2] [0, 3, 53] (by kernel_rfl)) rfl
    · intro lp lq r hmid ac wd hS
      have hperm2 := perm_mid hperm hmid
      have hrK : r ∈ K := mem_left hperm hmid
      have hlt : (lp ++ lq).length < mm := by rw [← hmm, hmid]; simp
      refine regT [] [0, 1, 3, 18, 20] hG hS (env := [(0, .fn (.yield Ly) [] []), (1, .fp [.fm (K.map idk) (K.map Report.av), .fm ((goneL K).map k1) ((goneL K).map v1), .fm ((fixedL K).map k1) ((fixedL K).map v1)] 0), (3, .mp 0), (18, .itr 1), (20, .bool true)]) (own := [.map (L.map idk) (L.map Report.av), .iter ((lp ++ lq).map idk) ((lp ++ lq).map Report.av) (some (.int .i64 r.Id, Report.av r))]) (obs := []) (by kernel_rfl) (by rfl) (trivial) fun ac wd hS => ?_
      refine runs_seq ?_
      refine cond_yes hS (c := true) (by kernel_rfl) rfl ?_
      refine runs_skip ?_
      refine runs_block ?_
      refine runs_seq ?_
      refine reg [] [0, 1, 3, 18, 5, 4] hG hS (env := [(0, .fn (.yield Ly) [] []), (1, .fp [.fm (K.map idk) (K.map Report.av), .fm ((goneL K).map k1) ((goneL K).map v1), .fm ((fixedL K).map k1) ((fixedL K).map v1)] 0), (3, .mp 0), (18, .itr 1), (5, .box 2 0), (4, .int .i64 r.Id)]) (own := [.map (L.map idk) (L.map Report.av), .iter ((lp ++ lq).map idk) ((lp ++ lq).map Report.av) (some (.int .i64 r.Id, Report.av r)), .box none 73 [.int .i64 r.Id, .int .i64 r.Source, .int .i64 r.Account, .int .i64 r.Made, .int .i64 r.About, .int .u8 (U8.i r.Kind), .int .i64 r.Cents, .int .i64 r.Of]]) (obs := []) (by kernel_rfl) (trivial) fun ac wd hS => ?_
      refine runs_seq ?_
      refine runs_seq ?_
      refine reg [(3, .av (.tup [.int .i64 ((getM (fixedL K) r.Id).getD 0), .bool ((getM (fixedL K) r.Id).isSome)]))] [0, 1, 3, 18, 5, 4, 6, 7] hG hS (env := [(0, .fn (.yield Ly) [] []), (1, .fp [.fm (K.map idk) (K.map Report.av), .fm ((goneL K).map k1) ((goneL K).map v1), .fm ((fixedL K).map k1) ((fixedL K).map v1)] 0), (3, .mp 0), (18, .itr 1), (5, .box 2 0), (4, .int .i64 r.Id), (6, .int .i64 ((getM (fixedL K) r.Id).getD 0)), (7, .bool ((getM (fixedL K) r.Id).isSome))]) (own := [.map (L.map idk) (L.map Report.av), .iter ((lp ++ lq).map idk) ((lp ++ lq).map Report.av) (some (.int .i64 r.Id, Report.av r)), .box none 73 [.int .i64 r.Id, .int .i64 r.Source, .int .i64 r.Account, .int .i64 r.Made, .int .i64 r.About, .int .u8 (U8.i r.Kind), .int .i64 r.Cents, .int .i64 r.Of]]) (obs := [LookOK Tryz.prog 3 ((fixedL K).map k1) ((fixedL K).map v1) (.int .i64 r.Id) (.int .i64 ((getM (fixedL K) r.Id).getD 0)) (.int .i64 0) (getM (fixedL K) r.Id).isSome]) (by kernel_rfl) ((look_M (fixedL_inv hK (goneL_inv hK)).nd _)) fun ac wd hS => ?_
      refine runs_seq ?_
      rcases Bool.eq_false_or_eq_true ((getM (fixedL K) r.Id).isSome) with hb1 | hb1
      · skip
        refine reg [(0, .dec true)] [0, 1, 3, 18, 5, 4, 6, 31] hG hS (env := [(0, .fn (.yield Ly) [] []), (1, .fp [.fm (K.map idk) (K.map Report.av), .fm ((goneL K).map k1) ((goneL K).map v1), .fm ((fixedL K).map k1) ((fixedL K).map v1)] 0), (3, .mp 0), (18, .itr 1), (5, .box 2 0), (4, .int .i64 r.Id), (6, .int .i64 ((getM (fixedL K) r.Id).getD 0)), (31, .bool true)]) (own := [.map (L.map idk) (L.map Report.av), .iter ((lp ++ lq).map idk) ((lp ++ lq).map Report.av) (some (.int .i64 r.Id, Report.av r)), .box none 73 [.int .i64 r.Id, .int .i64 r.Source, .int .i64 r.Account, .int .i64 r.Made, .int .i64 r.About, .int .u8 (U8.i r.Kind), .int .i64 r.Cents, .int .i64 r.Of]]) (obs := [(getM (fixedL K) r.Id).isSome = true]) (by kernel_rfl) (hb1) fun ac wd hS => ?_
        refine cond_yes hS (c := true) (by kernel_rfl) rfl ?_
        refine drw [(4, .av (Report.av ((getR K ((getM (fixedL K) r.Id).getD 0)).getD zeroR))), (10, .av (Report.av ((getR K ((getM (fixedL K) r.Id).getD 0)).getD zeroR)))] [0, 1, 3, 18, 5, 4] hG hS (env := [(0, .fn (.yield Ly) [] []), (1, .fp [.fm (K.map idk) (K.map Report.av), .fm ((goneL K).map k1) ((goneL K).map v1), .fm ((fixedL K).map k1) ((fixedL K).map v1)] 0), (3, .mp 0), (18, .itr 1), (5, .box 2 0), (4, .int .i64 r.Id)]) (own := [.map (L.map idk) (L.map Report.av), .iter ((lp ++ lq).map idk) ((lp ++ lq).map Report.av) (some (.int .i64 r.Id, Report.av r)), .box none 73 [.int .i64 r.Id, .int .i64 r.Source, .int .i64 r.Account, .int .i64 r.Made, .int .i64 (((getR K ((getM (fixedL K) r.Id).getD 0)).getD zeroR).About), .int .u8 (U8.i r.Kind), .int .i64 (((getR K ((getM (fixedL K) r.Id).getD 0)).getD zeroR).Cents), .int .i64 r.Of]]) (obs := [∃ c, LookOK Tryz.prog 3 (K.map idk) (K.map Report.av) (.int .i64 ((getM (fixedL K) r.Id).getD 0)) (Report.av ((getR K ((getM (fixedL K) r.Id).getD 0)).getD zeroR)) (.agg [.int .i64 0, .int .i64 0, .int .i64 0, .int .i64 0, .int .i64 0, .int .u8 0, .int .i64 0, .int .i64 0]) c, ∃ c, LookOK Tryz.prog 3 (K.map idk) (K.map Report.av) (.int .i64 ((getM (fixedL K) r.Id).getD 0)) (Report.av ((getR K ((getM (fixedL K) r.Id).getD 0)).getD zeroR)) (.agg [.int .i64 0, .int .i64 0, .int .i64 0, .int .i64 0, .int .i64 0, .int .u8 0, .int .i64 0, .int .i64 0]) c]) (by kernel_rfl) (by kernel_rfl) (⟨⟨_, (look_R hK.nd _)⟩, ⟨_, (look_R hK.nd _)⟩⟩) fun ac wd hS => ?_
        replace hS : Sat B ⟨Tryz.f108.ntmps, [(0, .fn (.yield Ly) [] []), (1, .fp [.fm (K.map idk) (K.map Report.av), .fm ((goneL K).map k1) ((goneL K).map v1), .fm ((fixedL K).map k1) ((fixedL K).map v1)] 0), (3, .mp 0), (18, .itr 1), (5, .box 2 0), (4, .int .i64 r.Id)], [.map (L.map idk) (L.map Report.av), .iter ((lp ++ lq).map idk) ((lp ++ lq).map Report.av) (some (.int .i64 r.Id, Report.av r)), .box none 73 [.int .i64 ((fixWith r ((getR K ((getM (fixedL K) r.Id).getD 0)).getD zeroR)).Id), .int .i64 ((fixWith r ((getR K ((getM (fixedL K) r.Id).getD 0)).getD zeroR)).Source), .int .i64 ((fixWith r ((getR K ((getM (fixedL K) r.Id).getD 0)).getD zeroR)).Account), .int .i64 ((fixWith r ((getR K ((getM (fixedL K) r.Id).getD 0)).getD zeroR)).Made), .int .i64 ((fixWith r ((getR K ((getM (fixedL K) r.Id).getD 0)).getD zeroR)).About), .int .u8 (U8.i (fixWith r ((getR K ((getM (fixedL K) r.Id).getD 0)).getD zeroR)).Kind), .int .i64 ((fixWith r ((getR K ((getM (fixedL K) r.Id).getD 0)).getD zeroR)).Cents), .int .i64 ((fixWith r ((getR K ((getM (fixedL K) r.Id).getD 0)).getD zeroR)).Of)]]⟩ ac wd := hS
        refine runs_seq ?_
        rcases Bool.eq_false_or_eq_true (factB (fixWith r ((getR K ((getM (fixedL K) r.Id).getD 0)).getD zeroR))) with hb2 | hb2
        · skip
          refine reg [(1, .av (.bool (factB (fixWith r ((getR K ((getM (fixedL K) r.Id).getD 0)).getD zeroR)))))] [0, 1, 3, 18, 5, 4, 47] hG hS (env := [(0, .fn (.yield Ly) [] []), (1, .fp [.fm (K.map idk) (K.map Report.av), .fm ((goneL K).map k1) ((goneL K).map v1), .fm ((fixedL K).map k1) ((fixedL K).map v1)] 0), (3, .mp 0), (18, .itr 1), (5, .box 2 0), (4, .int .i64 r.Id), (47, .bool (factB (fixWith r ((getR K ((getM (fixedL K) r.Id).getD 0)).getD zeroR))))]) (own := [.map (L.map idk) (L.map Report.av), .iter ((lp ++ lq).map idk) ((lp ++ lq).map Report.av) (some (.int .i64 r.Id, Report.av r)), .box none 73 [.int .i64 ((fixWith r ((getR K ((getM (fixedL K) r.Id).getD 0)).getD zeroR)).Id), .int .i64 ((fixWith r ((getR K ((getM (fixedL K) r.Id).getD 0)).getD zeroR)).Source), .int .i64 ((fixWith r ((getR K ((getM (fixedL K) r.Id).getD 0)).getD zeroR)).Account), .int .i64 ((fixWith r ((getR K ((getM (fixedL K) r.Id).getD 0)).getD zeroR)).Made), .int .i64 ((fixWith r ((getR K ((getM (fixedL K) r.Id).getD 0)).getD zeroR)).About), .int .u8 (U8.i (fixWith r ((getR K ((getM (fixedL K) r.Id).getD 0)).getD zeroR)).Kind), .int .i64 ((fixWith r ((getR K ((getM (fixedL K) r.Id).getD 0)).getD zeroR)).Cents), .int .i64 ((fixWith r ((getR K ((getM (fixedL K) r.Id).getD 0)).getD zeroR)).Of)]]) (obs := [CallA Tryz.prog GT 106 [Report.av (fixWith r ((getR K ((getM (fixedL K) r.Id).getD 0)).getD zeroR))] (.bool (factB (fixWith r ((getR K ((getM (fixedL K) r.Id).getD 0)).getD zeroR))))]) (by kernel_rfl) ((fact_ok _)) fun ac wd hS => ?_
          refine cond_yes hS (c := factB (fixWith r ((getR K ((getM (fixedL K) r.Id).getD 0)).getD zeroR))) (by kernel_rfl) (hb2) ?_
          refine reg [(3, .put ((L ++ [(fixWith r ((getR K ((getM (fixedL K) r.Id).getD 0)).getD zeroR))]).map idk) ((L ++ [(fixWith r ((getR K ((getM (fixedL K) r.Id).getD 0)).getD zeroR))]).map Report.av))] [0, 1, 3, 18] hG hS (env := [(0, .fn (.yield Ly) [] []), (1, .fp [.fm (K.map idk) (K.map Report.av), .fm ((goneL K).map k1) ((goneL K).map v1), .fm ((fixedL K).map k1) ((fixedL K).map v1)] 0), (3, .mp 0), (18, .itr 1)]) (own := [.map ((L ++ [(fixWith r ((getR K ((getM (fixedL K) r.Id).getD 0)).getD zeroR))]).map idk) ((L ++ [(fixWith r ((getR K ((getM (fixedL K) r.Id).getD 0)).getD zeroR))]).map Report.av), .iter ((lp ++ lq).map idk) ((lp ++ lq).map Report.av) (some (.int .i64 r.Id, Report.av r)), .box none 73 [.int .i64 ((fixWith r ((getR K ((getM (fixedL K) r.Id).getD 0)).getD zeroR)).Id), .int .i64 ((fixWith r ((getR K ((getM (fixedL K) r.Id).getD 0)).getD zeroR)).Source), .int .i64 ((fixWith r ((getR K ((getM (fixedL K) r.Id).getD 0)).getD zeroR)).Account), .int .i64 ((fixWith r ((getR K ((getM (fixedL K) r.Id).getD 0)).getD zeroR)).Made), .int .i64 ((fixWith r ((getR K ((getM (fixedL K) r.Id).getD 0)).getD zeroR)).About), .int .u8 (U8.i (fixWith r ((getR K ((getM (fixedL K) r.Id).getD 0)).getD zeroR)).Kind), .int .i64 ((fixWith r ((getR K ((getM (fixedL K) r.Id).getD 0)).getD zeroR)).Cents), .int .i64 ((fixWith r ((getR K ((getM (fixedL K) r.Id).getD 0)).getD zeroR)).Of)]]) (obs := [PutOK Tryz.prog 3 (L.map idk) (L.map Report.av) (.int .i64 r.Id) (Report.av (fixWith r ((getR K ((getM (fixedL K) r.Id).getD 0)).getD zeroR))) ((L ++ [(fixWith r ((getR K ((getM (fixedL K) r.Id).getD 0)).getD zeroR))]).map idk) ((L ++ [(fixWith r ((getR K ((getM (fixedL K) r.Id).getD 0)).getD zeroR))]).map Report.av)]) (by kernel_rfl) ((put_new (kf := Report.Id) (vf := Report.av) hL.nd (fixWith r ((getR K ((getM (fixedL K) r.Id).getD 0)).getD zeroR)) (hL.yes (fix_yes hb1) (hb2) (ne_done hK.nd hperm hmid)).2)) fun ac wd hS => ?_
          refine runs_inBlock ?_
          refine runs_inLoop ?_
          exact ihm _ hlt _ _ (lp ++ lq) (done ++ [r]) (some (.int .i64 r.Id, Report.av r)) (L ++ [(fixWith r ((getR K ((getM (fixedL K) r.Id).getD 0)).getD zeroR))]) hperm2 (hL.yes (fix_yes hb1) hb2 (ne_done hK.nd hperm hmid)).1 (hS.sel [0, 1] [0, 1, 3, 18] (by kernel_rfl)) rfl
        · skip
          refine reg [(1, .av (.bool (factB (fixWith r ((getR K ((getM (fixedL K) r.Id).getD 0)).getD zeroR)))))] [0, 1, 3, 18, 5, 4, 47] hG hS (env := [(0, .fn (.yield Ly) [] []), (1, .fp [.fm (K.map idk) (K.map Report.av), .fm ((goneL K).map k1) ((goneL K).map v1), .fm ((fixedL K).map k1) ((fixedL K).map v1)] 0), (3, .mp 0), (18, .itr 1), (5, .box 2 0), (4, .int .i64 r.Id), (47, .bool (factB (fixWith r ((getR K ((getM (fixedL K) r.Id).getD 0)).getD zeroR))))]) (own := [.map (L.map idk) (L.map Report.av), .iter ((lp ++ lq).map idk) ((lp ++ lq).map Report.av) (some (.int .i64 r.Id, Report.av r)), .box none 73 [.int .i64 ((fixWith r ((getR K ((getM (fixedL K) r.Id).getD 0)).getD zeroR)).Id), .int .i64 ((fixWith r ((getR K ((getM (fixedL K) r.Id).getD 0)).getD zeroR)).Source), .int .i64 ((fixWith r ((getR K ((getM (fixedL K) r.Id).getD 0)).getD zeroR)).Account), .int .i64 ((fixWith r ((getR K ((getM (fixedL K) r.Id).getD 0)).getD zeroR)).Made), .int .i64 ((fixWith r ((getR K ((getM (fixedL K) r.Id).getD 0)).getD zeroR)).About), .int .u8 (U8.i (fixWith r ((getR K ((getM (fixedL K) r.Id).getD 0)).getD zeroR)).Kind), .int .i64 ((fixWith r ((getR K ((getM (fixedL K) r.Id).getD 0)).getD zeroR)).Cents), .int .i64 ((fixWith r ((getR K ((getM (fixedL K) r.Id).getD 0)).getD zeroR)).Of)]]) (obs := [CallA Tryz.prog GT 106 [Report.av (fixWith r ((getR K ((getM (fixedL K) r.Id).getD 0)).getD zeroR))] (.bool (factB (fixWith r ((getR K ((getM (fixedL K) r.Id).getD 0)).getD zeroR))))]) (by kernel_rfl) ((fact_ok _)) fun ac wd hS => ?_
          refine cond_no hS (c := factB (fixWith r ((getR K ((getM (fixedL K) r.Id).getD 0)).getD zeroR))) (by kernel_rfl) (hb2) ?_
          refine runs_skip ?_
          refine runs_inBlock ?_
          refine runs_inLoop ?_
          exact ihm _ hlt _ _ (lp ++ lq) (done ++ [r]) (some (.int .i64 r.Id, Report.av r)) L hperm2 (hL.no hb2) (hS.sel [0, 1] [0, 1, 3, 18] (by kernel_rfl)) rfl
      · skip
        refine reg [(0, .dec false)] [0, 1, 3, 18, 5, 4, 6, 31] hG hS (env := [(0, .fn (.yield Ly) [] []), (1, .fp [.fm (K.map idk) (K.map Report.av), .fm ((goneL K).map k1) ((goneL K).map v1), .fm ((fixedL K).map k1) ((fixedL K).map v1)] 0), (3, .mp 0), (18, .itr 1), (5, .box 2 0), (4, .int .i64 r.Id), (6, .int .i64 ((getM (fixedL K) r.Id).getD 0)), (31, .bool false)]) (own := [.map (L.map idk) (L.map Report.av), .iter ((lp ++ lq).map idk) ((lp ++ lq).map Report.av) (some (.int .i64 r.Id, Report.av r)), .box none 73 [.int .i64 r.Id, .int .i64 r.Source, .int .i64 r.Account, .int .i64 r.Made, .int .i64 r.About, .int .u8 (U8.i r.Kind), .int .i64 r.Cents, .int .i64 r.Of]]) (obs := [(getM (fixedL K) r.Id).isSome = false]) (by kernel_rfl) (hb1) fun ac wd hS => ?_
        refine cond_no hS (c := false) (by kernel_rfl) rfl ?_
        refine runs_skip ?_
        refine runs_seq ?_
        rcases Bool.eq_false_or_eq_true (factB r) with hb3 | hb3
        · skip
          refine reg [(1, .av (.bool (factB r)))] [0, 1, 3, 18, 5, 4, 47] hG hS (env := [(0, .fn (.yield Ly) [] []), (1, .fp [.fm (K.map idk) (K.map Report.av), .fm ((goneL K).map k1) ((goneL K).map v1), .fm ((fixedL K).map k1) ((fixedL K).map v1)] 0), (3, .mp 0), (18, .itr 1), (5, .box 2 0), (4, .int .i64 r.Id), (47, .bool (factB r))]) (own := [.map (L.map idk) (L.map Report.av), .iter ((lp ++ lq).map idk) ((lp ++ lq).map Report.av) (some (.int .i64 r.Id, Report.av r)), .box none 73 [.int .i64 r.Id, .int .i64 r.Source, .int .i64 r.Account, .int .i64 r.Made, .int .i64 r.About, .int .u8 (U8.i r.Kind), .int .i64 r.Cents, .int .i64 r.Of]]) (obs := [CallA Tryz.prog GT 106 [Report.av r] (.bool (factB r))]) (by kernel_rfl) ((fact_ok _)) fun ac wd hS => ?_
          refine cond_yes hS (c := factB r) (by kernel_rfl) (hb3) ?_
          refine reg [(3, .put ((L ++ [r]).map idk) ((L ++ [r]).map Report.av))] [0, 1, 3, 18] hG hS (env := [(0, .fn (.yield Ly) [] []), (1, .fp [.fm (K.map idk) (K.map Report.av), .fm ((goneL K).map k1) ((goneL K).map v1), .fm ((fixedL K).map k1) ((fixedL K).map v1)] 0), (3, .mp 0), (18, .itr 1)]) (own := [.map ((L ++ [r]).map idk) ((L ++ [r]).map Report.av), .iter ((lp ++ lq).map idk) ((lp ++ lq).map Report.av) (some (.int .i64 r.Id, Report.av r)), .box none 73 [.int .i64 r.Id, .int .i64 r.Source, .int .i64 r.Account, .int .i64 r.Made, .int .i64 r.About, .int .u8 (U8.i r.Kind), .int .i64 r.Cents, .int .i64 r.Of]]) (obs := [PutOK Tryz.prog 3 (L.map idk) (L.map Report.av) (.int .i64 r.Id) (Report.av r) ((L ++ [r]).map idk) ((L ++ [r]).map Report.av)]) (by kernel_rfl) ((put_new (kf := Report.Id) (vf := Report.av) hL.nd r (hL.yes (fix_no hb1) (hb3) (ne_done hK.nd hperm hmid)).2)) fun ac wd hS => ?_
          refine runs_inBlock ?_
          refine runs_inLoop ?_
          exact ihm _ hlt _ _ (lp ++ lq) (done ++ [r]) (some (.int .i64 r.Id, Report.av r)) (L ++ [r]) hperm2 (hL.yes (fix_no hb1) hb3 (ne_done hK.nd hperm hmid)).1 (hS.sel [0, 1] [0, 1, 3, 18] (by kernel_rfl)) rfl
        · skip
          refine reg [(1, .av (.bool (factB r)))] [0, 1, 3, 18, 5, 4, 47] hG hS (env := [(0, .fn (.yield Ly) [] []), (1, .fp [.fm (K.map idk) (K.map Report.av), .fm ((goneL K).map k1) ((goneL K).map v1), .fm ((fixedL K).map k1) ((fixedL K).map v1)] 0), (3, .mp 0), (18, .itr 1), (5, .box 2 0), (4, .int .i64 r.Id), (47, .bool (factB r))]) (own := [.map (L.map idk) (L.map Report.av), .iter ((lp ++ lq).map idk) ((lp ++ lq).map Report.av) (some (.int .i64 r.Id, Report.av r)), .box none 73 [.int .i64 r.Id, .int .i64 r.Source, .int .i64 r.Account, .int .i64 r.Made, .int .i64 r.About, .int .u8 (U8.i r.Kind), .int .i64 r.Cents, .int .i64 r.Of]]) (obs := [CallA Tryz.prog GT 106 [Report.av r] (.bool (factB r))]) (by kernel_rfl) ((fact_ok _)) fun ac wd hS => ?_
          refine cond_no hS (c := factB r) (by kernel_rfl) (hb3) ?_
          refine runs_skip ?_
          refine runs_inBlock ?_
          refine runs_inLoop ?_
          exact ihm _ hlt _ _ (lp ++ lq) (done ++ [r]) (some (.int .i64 r.Id, Report.av r)) L hperm2 (hL.no hb3) (hS.sel [0, 1] [0, 1, 3, 18] (by kernel_rfl)) rfl
end Go.Fw

set_option maxRecDepth 20000
namespace Go.Fw
open Go.Proofs

theorem factsfn_ok (K : List Report) : CallA Tryz.prog GT 80 [.agg [.fm (K.map idk) (K.map Report.av), .fm ((goneL K).map k1) ((goneL K).map v1), .fm ((fixedL K).map k1) ((fixedL K).map v1)]] (.fn (.func 108) [] [.fp [.fm (K.map idk) (K.map Report.av), .fm ((goneL K).map k1) ((goneL K).map v1), .fm ((fixedL K).map k1) ((fixedL K).map v1)] 0]) := by
  refine callA_of Tryz.func80 rfl (by simp [Tryz.f80]) rfl fun B ac hB hBd hG hS => ?_
  refine runs_seq ?_
  refine reg [] [1] hG hS (env := [(1, .box 0 0)]) (own := [.box none 147 [.fm (K.map idk) (K.map Report.av), .fm ((goneL K).map k1) ((goneL K).map v1), .fm ((fixedL K).map k1) ((fixedL K).map v1)]]) (obs := []) (by kernel_rfl) (trivial) fun ac wd hS => ?_
  refine runs_seq ?_
  refine reg [] [2] hG hS (env := [(2, .fn (.func 108) [] [.box 0 0])]) (own := [.box none 147 [.fm (K.map idk) (K.map Report.av), .fm ((goneL K).map k1) ((goneL K).map v1), .fm ((fixedL K).map k1) ((fixedL K).map v1)]]) (obs := []) (by kernel_rfl) (trivial) fun ac wd hS => ?_
  skip
  exact retz Tryz.func80 rfl hB hBd hS (by kernel_rfl) rfl
theorem stand_len (K : List Report) : (standingL K).length ≤ K.length := by
  have := (standing_perm K).length_eq
  rw [this, List.length_map]; exact List.length_filter_le _ _
theorem take_next {α : Type} {m : List α} {j : Nat} {x : α} (h : m[j]? = some x) : m.take (j + 1) = m.take j ++ [x] := by
  rw [List.take_add_one, h]; rfl
theorem take_app {m : List Report} {j : Nat} {x : Report} (h : m[j]? = some x) : (m.take (j + 1)).map Report.av = (m.take j ++ [x]).map Report.av := by rw [take_next h]
theorem take_len {α : Type} {m : List α} {j : Nat} : (m.take j).length ≤ m.length := by rw [List.length_take]; omega
theorem appendseq_ok (K : List Report) (hK : Good K) (hn : K.length ≤ 50000) : CallA Tryz.prog GT 104 [.nsl, .fn (.func 108) [] [.fp [.fm (K.map idk) (K.map Report.av), .fm ((goneL K).map k1) ((goneL K).map v1), .fm ((fixedL K).map k1) ((fixedL K).map v1)] 0]] (.sl ((standingL K).map Report.av)) := by
  refine callA_of Tryz.func104 rfl (by simp [Tryz.f104]) rfl fun B ac hB hBd hG hS => ?_
  refine runs_seq ?_
  refine reg [] [1, 2] hG hS (env := [(1, .fn (.func 108) [] [.fp [.fm (K.map idk) (K.map Report.av), .fm ((goneL K).map k1) ((goneL K).map v1), .fm ((fixedL K).map k1) ((fixedL K).map v1)] 0]), (2, .box 0 0)]) (own := [.box none 27 [.nsl]]) (obs := []) (by kernel_rfl) (trivial) fun ac wd hS => ?_
  replace hS : Sat B ⟨Tryz.f104.ntmps, [(1, .fn (.func 108) [] [.fp [.fm (K.map idk) (K.map Report.av), .fm ((goneL K).map k1) ((goneL K).map v1), .fm ((fixedL K).map k1) ((fixedL K).map v1)] 0]), (2, .box 0 0)], [.box none 27 [.osl 1], .row 73 8 []]⟩ ac wd := hS.nilcell 0 0 73 8 (by kernel_rfl)
  refine runs_seq ?_
  refine runs_seq ?_
  refine reg [] [2, 6] hG hS (env := [(2, .box 0 0), (6, .fn (.func 108) [] [.fp [.fm (K.map idk) (K.map Report.av), .fm ((goneL K).map k1) ((goneL K).map v1), .fm ((fixedL K).map k1) ((fixedL K).map v1)] 0])]) (own := [.box none 27 [.osl 1], .row 73 8 []]) (obs := []) (by kernel_rfl) (trivial) fun ac wd hS => ?_
  refine runs_block ?_
  obtain ⟨hp1, hS⟩ := hS.pin 0 rfl
  replace hS : Sat B ⟨Tryz.f104.ntmps, [(6, .fn (.func 108) [] [.fp [.fm (K.map idk) (K.map Report.av), .fm ((goneL K).map k1) ((goneL K).map v1), .fm ((fixedL K).map k1) ((fixedL K).map v1)] 0]), (2, .box 0 0)], [.box (some hp1) 27 [.osl 1], .row 73 8 (((standingL K).take 0).map Report.av)]⟩ ac wd := hS.sel [0, 1] [6, 2] (by kernel_rfl)
  refine rangeFunc2 (elems := (standingL K).map (fun r => [Report.av r])) (fun j => [.box (some hp1) 27 [.osl 1], .row 73 8 (((standingL K).take j).map Report.av)]) [(2, .box 0 0)] hS hBd hG rfl rfl rfl (facts_iter K hK (by omega)) rfl (fun j e he hg => by subst hg; simp at he) (fun j => ⟨.inr ⟨0, 0, _, _, _, rfl, rfl⟩, trivial⟩) (fun j => ⟨fun i off h T cs hx hi => by cases hx; cases hi; exact ⟨_, _, rfl⟩, trivial⟩) (fun p hp => List.mem_cons_of_mem _ hp) rfl rfl rfl (fun e he => by obtain ⟨r, _, rfl⟩ := List.mem_map.1 he; rfl) ?_ ?_
  · intro j e L D RL BL B ac hLO hej hBd hG hS
    rw [List.getElem?_map] at hej; obtain ⟨x, hx, rfl⟩ := Option.map_eq_some_iff.1 hej
    refine reg [] [2, 5] hG hS (env := [(2, .box 0 0), (5, .box 4 0)]) (own := [.box (some hp1) 27 [.osl 1], .row 73 8 (((standingL K).take j).map Report.av), .obj (some D) (.deferred (some [])), .obj (some L) RL, .box none 73 [.int .i64 x.Id, .int .i64 x.Source, .int .i64 x.Account, .int .i64 x.Made, .int .i64 x.About, .int .u8 (U8.i x.Kind), .int .i64 x.Cents, .int .i64 x.Of]]) (obs := []) (by kernel_rfl) (trivial) fun ac wd hS => ?_
    refine round_begin2 hLO hS (m := 3) rfl fun wd hS => ?_
    refine runs_block ?_
    refine reg [(3, .lst (((standingL K).take j ++ [x]).map Report.av))] [] hG hS (env := []) (own := [.box (some hp1) 27 [.osl 5], .gone, .obj (some D) (.deferred (some [])), .obj (some L) BL, .box none 73 [.int .i64 x.Id, .int .i64 x.Source, .int .i64 x.Account, .int .i64 x.Made, .int .i64 x.About, .int .u8 (U8.i x.Kind), .int .i64 x.Cents, .int .i64 x.Of], .row 73 8 (((standingL K).take j ++ [x]).map Report.av)]) (obs := [AppOK 8 (((standingL K).take j).map Report.av) [Report.av x] ∧ ((standingL K).take j ++ [x]).map Report.av = (((standingL K).take j).map Report.av) ++ [Report.av x]]) (by kernel_rfl) (⟨app_ok1 (by have h9 := stand_len K; have h8 := take_len (m := standingL K) (j := j); omega) rfl rfl, by simp⟩) fun ac wd hS => ?_
    refine runs_inBlock ?_
    exact round_end2 (m := 3) hLO (show Sat B ⟨Tryz.f104.ntmps, [], [.box (some hp1) 27 [.osl 1], .row 73 8 (((standingL K).take j ++ [x]).map Report.av), .obj (some D) (.deferred (some [])), .obj (some L) BL]⟩ ac wd from hS.sel [0, 5, 2, 3] [] (by kernel_rfl)) rfl (by show [_, OE.row 73 8 (((standingL K).take (j + 1)).map Report.av), _, _] = _; rw [take_app hx]; rfl)
  · intro D ac wd hS
    have hG := (show GOK GT { B with df := [markOf D] }.H from hG)
    replace hS : Sat { B with df := [markOf D] } ⟨Tryz.f104.ntmps, [(2, .box 0 0)], [.box (some hp1) 27 [.osl 1], .row 73 8 ((standingL K).map Report.av), .obj (some D) (.deferred (some [])), .gone]⟩ ac wd := by have h9 := hS; simp only [List.length_map, List.take_length] at h9; exact h9
    refine runs_inBlock ?_
    refine runs_seq ?_
    refine reg [] [4] hG hS (env := [(4, .osl 1)]) (own := [.box (some hp1) 27 [.osl 1], .row 73 8 ((standingL K).map Report.av), .obj (some D) (.deferred (some [])), .gone]) (obs := []) (by kernel_rfl) (trivial) fun ac wd hS => ?_
    skip
    exact retm 2 Tryz.func104 rfl hB hS rfl (by kernel_rfl) rfl
theorem collect_ok (K : List Report) (hK : Good K) (hn : K.length ≤ 50000) : CallA Tryz.prog GT 78 [.fn (.func 108) [] [.fp [.fm (K.map idk) (K.map Report.av), .fm ((goneL K).map k1) ((goneL K).map v1), .fm ((fixedL K).map k1) ((fixedL K).map v1)] 0]] (.sl ((standingL K).map Report.av)) := by
  refine callA_of Tryz.func78 rfl (by simp [Tryz.f78]) rfl fun B ac hB hBd hG hS => ?_
  refine runs_seq ?_
  refine reg [] [0] hG hS (env := [(0, .fn (.func 108) [] [.fp [.fm (K.map idk) (K.map Report.av), .fm ((goneL K).map k1) ((goneL K).map v1), .fm ((fixedL K).map k1) ((fixedL K).map v1)] 0])]) (own := []) (obs := []) (by kernel_rfl) (trivial) fun ac wd hS => ?_
  refine runs_seq ?_
  refine reg [(1, .av (.sl ((standingL K).map Report.av)))] [2] hG hS (env := [(2, .sl ((standingL K).map Report.av))]) (own := []) (obs := [CallA Tryz.prog GT 104 [.nsl, .fn (.func 108) [] [.fp [.fm (K.map idk) (K.map Report.av), .fm ((goneL K).map k1) ((goneL K).map v1), .fm ((fixedL K).map k1) ((fixedL K).map v1)] 0]] (.sl ((standingL K).map Report.av))]) (by kernel_rfl) ((appendseq_ok K hK hn)) fun ac wd hS => ?_
  skip
  exact retz Tryz.func78 rfl hB hBd hS (by kernel_rfl) rfl
def standA (l : List Report) (known : Int) : List Report × Int := if (checkR l != 0) then ([], checkR l) else if !inB 0 100000 [known] then ([], 2) else (factsL l known, 0)
theorem standing_call (l : List Report) (known : Int) (hn : l.length ≤ 65536) : CallA Tryz.prog GT 34 [.sl (l.map Report.av), .int .i64 known] (.tup [.sl ((standA l known).1.map Report.av), .int .i64 (standA l known).2]) := by
  refine callA_of Tryz.func34 rfl (by simp [Tryz.f34]) rfl fun B ac hB hBd hG hS => ?_
  refine runs_seq ?_
  refine reg [] [0, 1] hG hS (env := [(0, .sl (l.map Report.av)), (1, .int .i64 known)]) (own := []) (obs := []) (by kernel_rfl) (trivial) fun ac wd hS => ?_
  refine runs_seq ?_
  refine runs_seq ?_
  refine reg [(1, .av (.int .i64 (checkR l)))] [0, 1, 6] hG hS (env := [(0, .sl (l.map Report.av)), (1, .int .i64 known), (6, .int .i64 (checkR l))]) (own := []) (obs := [CallA Tryz.prog GT 76 [.sl (l.map Report.av)] (.int .i64 (checkR l))]) (by kernel_rfl) ((checkA_ok _ hn)) fun ac wd hS => ?_
  refine runs_seq ?_
  rcases Bool.eq_false_or_eq_true (((checkR l) != 0)) with hb1 | hb1
  · skip
    refine reg [(1, .dec true)] [0, 1, 6, 10] hG hS (env := [(0, .sl (l.map Report.av)), (1, .int .i64 known), (6, .int .i64 (checkR l)), (10, .bool true)]) (own := []) (obs := [((checkR l) != 0) = true]) (by kernel_rfl) (hb1) fun ac wd hS => ?_
    refine cond_yes hS (c := true) (by kernel_rfl) rfl ?_
    refine runs_seq ?_
    refine reg [] [4, 5] hG hS (env := [(4, .nsl), (5, .int .i64 (checkR l))]) (own := []) (obs := []) (by kernel_rfl) (trivial) fun ac wd hS => ?_
    rw [show (.tup [.sl ((standA l known).1.map Report.av), .int .i64 (standA l known).2] : AV) = .tup [.sl [], .int .i64 (checkR l)] from by simp only [standA, hb1, Bool.and_true, Bool.true_and, Bool.and_false, Bool.false_and, Bool.or_true, Bool.true_or, Bool.or_false, Bool.false_or, Bool.not_true, Bool.not_false, Bool.false_eq_true, if_true, if_false] <;> rfl]
    exact retz Tryz.func34 rfl hB hBd hS (by kernel_rfl) rfl
  · skip
    refine reg [(1, .dec false)] [0, 1, 6, 10] hG hS (env := [(0, .sl (l.map Report.av)), (1, .int .i64 known), (6, .int .i64 (checkR l)), (10, .bool false)]) (own := []) (obs := [((checkR l) != 0) = false]) (by kernel_rfl) (hb1) fun ac wd hS => ?_
    refine cond_no hS (c := false) (by kernel_rfl) rfl ?_
    refine runs_skip ?_
    refine runs_seq ?_
    refine runs_seq ?_
    rcases Bool.eq_false_or_eq_true (inB 0 100000 [known]) with hb2 | hb2
    · skip
      refine reg [(2, .av (.bool (inB 0 100000 [known]))), (3, .dec false)] [0, 1, 15] hG hS (env := [(0, .sl (l.map Report.av)), (1, .int .i64 known), (15, .bool false)]) (own := []) (obs := [CallA Tryz.prog GT 77 [.int .i64 0, .int .i64 100000, .sl [.int .i64 known]] (.bool (inB 0 100000 [known])), (!inB 0 100000 [known]) = false]) (by kernel_rfl) (⟨(in_ok77 _ _ [known] (by simp)), by rw [hb2]; rfl⟩) fun ac wd hS => ?_
      refine cond_no hS (c := false) (by kernel_rfl) rfl ?_
      refine runs_skip ?_
      refine runs_seq ?_
      obtain hf : Fine l := fine_of (by simpa using hb1)
      · skip
        refine reg [(2, .av (.agg [.fm ((knownL l known).map idk) ((knownL l known).map Report.av), .fm ((goneL (knownL l known)).map k1) ((goneL (knownL l known)).map v1), .fm ((fixedL (knownL l known)).map k1) ((fixedL (knownL l known)).map v1)])), (3, .av (.fn (.func 108) [] [.fp [.fm ((knownL l known).map idk) ((knownL l known).map Report.av), .fm ((goneL (knownL l known)).map k1) ((goneL (knownL l known)).map v1), .fm ((fixedL (knownL l known)).map k1) ((fixedL (knownL l known)).map v1)] 0])), (4, .av (.sl ((standingL (knownL l known)).map Report.av)))] [4, 5] hG hS (env := [(4, .sl ((standingL (knownL l known)).map Report.av)), (5, .int .i64 0)]) (own := []) (obs := [CallA Tryz.prog GT 79 [.sl (l.map Report.av), .int .i64 known] (.agg [.fm ((knownL l known).map idk) ((knownL l known).map Report.av), .fm ((goneL (knownL l known)).map k1) ((goneL (knownL l known)).map v1), .fm ((fixedL (knownL l known)).map k1) ((fixedL (knownL l known)).map v1)]), CallA Tryz.prog GT 80 [.agg [.fm ((knownL l known).map idk) ((knownL l known).map Report.av), .fm ((goneL (knownL l known)).map k1) ((goneL (knownL l known)).map v1), .fm ((fixedL (knownL l known)).map k1) ((fixedL (knownL l known)).map v1)]] (.fn (.func 108) [] [.fp [.fm ((knownL l known).map idk) ((knownL l known).map Report.av), .fm ((goneL (knownL l known)).map k1) ((goneL (knownL l known)).map v1), .fm ((fixedL (knownL l known)).map k1) ((fixedL (knownL l known)).map v1)] 0]), CallA Tryz.prog GT 78 [.fn (.func 108) [] [.fp [.fm ((knownL l known).map idk) ((knownL l known).map Report.av), .fm ((goneL (knownL l known)).map k1) ((goneL (knownL l known)).map v1), .fm ((fixedL (knownL l known)).map k1) ((fixedL (knownL l known)).map v1)] 0]] (.sl ((standingL (knownL l known)).map Report.av))]) (by kernel_rfl) (⟨(open_ok _ _ hf), (factsfn_ok _), (collect_ok _ (hf.good _) (by have := hf.klen known; omega))⟩) fun ac wd hS => ?_
        rw [show (.tup [.sl ((standA l known).1.map Report.av), .int .i64 (standA l known).2] : AV) = .tup [.sl ((standingL (knownL l known)).map Report.av), .int .i64 0] from by simp only [standA, hb1, hb2, Bool.and_true, Bool.true_and, Bool.and_false, Bool.false_and, Bool.or_true, Bool.true_or, Bool.or_false, Bool.false_or, Bool.not_true, Bool.not_false, Bool.false_eq_true, if_true, if_false] <;> rfl]
        exact retz Tryz.func34 rfl hB hBd hS (by kernel_rfl) rfl
    · skip
      refine reg [(2, .av (.bool (inB 0 100000 [known]))), (3, .dec true)] [0, 1, 15] hG hS (env := [(0, .sl (l.map Report.av)), (1, .int .i64 known), (15, .bool true)]) (own := []) (obs := [CallA Tryz.prog GT 77 [.int .i64 0, .int .i64 100000, .sl [.int .i64 known]] (.bool (inB 0 100000 [known])), (!inB 0 100000 [known]) = true]) (by kernel_rfl) (⟨(in_ok77 _ _ [known] (by simp)), by rw [hb2]; rfl⟩) fun ac wd hS => ?_
      refine cond_yes hS (c := true) (by kernel_rfl) rfl ?_
      refine runs_seq ?_
      refine reg [] [4, 5] hG hS (env := [(4, .nsl), (5, .int .i64 2)]) (own := []) (obs := []) (by kernel_rfl) (trivial) fun ac wd hS => ?_
      rw [show (.tup [.sl ((standA l known).1.map Report.av), .int .i64 (standA l known).2] : AV) = .tup [.sl [], .int .i64 2] from by simp only [standA, hb1, hb2, Bool.and_true, Bool.true_and, Bool.and_false, Bool.false_and, Bool.or_true, Bool.true_or, Bool.or_false, Bool.false_or, Bool.not_true, Bool.not_false, Bool.false_eq_true, if_true, if_false] <;> rfl]
      exact retz Tryz.func34 rfl hB hBd hS (by kernel_rfl) rfl
end Go.Fw

set_option maxRecDepth 20000
namespace Go.Fw
open Go.Proofs

theorem insR_perm (n : Int) : ∀ rp suf : List Int, (insR n rp suf).Perm (n :: (rp ++ suf))
  | [], suf => by simp [insR]
  | y :: rp, suf => by
    unfold insR
    split
    · exact (insR_perm n rp (y :: suf)).trans (List.Perm.cons n List.perm_middle)
    · exact List.perm_middle.trans (List.Perm.cons n (List.Perm.append_right suf (List.reverse_perm (y :: rp))))
theorem insL_perm (l : List Int) (n : Int) : (insL l n).Perm (n :: l) := by
  unfold insL
  refine (insR_perm n l.reverse []).trans (List.Perm.cons n ?_)
  simpa using List.reverse_perm l
theorem insR_sorted (n : Int) : ∀ rp suf : List Int, (rp.reverse ++ suf).Pairwise (· ≤ ·) → (∀ x ∈ suf, n ≤ x) → (insR n rp suf).Pairwise (· ≤ ·)
  | [], suf, h, hs => by
    simp only [insR, List.pairwise_cons]
    exact ⟨hs, by simpa using h⟩
  | y :: rp, suf, h, hs => by
    unfold insR
    have h' : (rp.reverse ++ (y :: suf)).Pairwise (· ≤ ·) := by simpa using h
    by_cases hb : n < y
    · rw [if_pos hb]
      refine insR_sorted n rp (y :: suf) h' fun x hx => ?_
      rcases List.mem_cons.1 hx with rfl | hx
      · omega
      · exact hs x hx
    · rw [if_neg hb]
      rw [List.pairwise_append] at h ⊢
      refine ⟨h.1, List.pairwise_cons.2 ⟨hs, h.2.1⟩, fun a ha b hb' => ?_⟩
      have har : a ≤ n := by
        rw [List.mem_reverse] at ha
        rcases List.mem_cons.1 ha with rfl | ha
        · omega
        · have h1 := (List.pairwise_append.1 h').2.2 a (by simpa using ha) y (by simp)
          omega
      rcases List.mem_cons.1 hb' with rfl | hb'
      · exact har
      · exact h.2.2 a ha b hb'
theorem insL_sorted {l : List Int} (h : l.Pairwise (· ≤ ·)) (n : Int) : (insL l n).Pairwise (· ≤ ·) := insR_sorted n l.reverse [] (by simpa using h) (by simp)
def sortL (l : List Int) : List Int := l.foldl insL []
theorem sort_fold : ∀ (l acc : List Int), acc.Pairwise (· ≤ ·) → (l.foldl insL acc).Pairwise (· ≤ ·) ∧ (l.foldl insL acc).Perm (l ++ acc)
  | [], acc, h => ⟨h, by simp⟩
  | x :: l, acc, h => by
    obtain ⟨h1, h2⟩ := sort_fold l (insL acc x) (insL_sorted h x)
    refine ⟨h1, h2.trans ?_⟩
    refine (List.Perm.append_left l (insL_perm acc x)).trans ?_
    simpa using List.perm_middle
theorem sortL_sorted (l : List Int) : (sortL l).Pairwise (· ≤ ·) := (sort_fold l [] List.Pairwise.nil).1
theorem sortL_perm (l : List Int) : (sortL l).Perm l := by simpa [sortL] using (sort_fold l [] List.Pairwise.nil).2
theorem app_ok1i {out : List Int} {x : AV} (h : out.length < 65536) (h1 : x.cells.length = 1) (h2 : x.cells.all AV.one = true) : AppOK 1 (out.map ia) [x] := by
  refine ⟨by simp; omega, fun e he => ?_⟩
  simp at he; subst he; exact ⟨h1, h2⟩
end Go.Fw

set_option maxRecDepth 20000
namespace Go.Fw
open Go.Proofs

end Go.Fw

set_option maxRecDepth 20000
namespace Go.Fw
open Go.Proofs

end Go.Fw

set_option maxRecDepth 20000
namespace Go.Fw
open Go.Proofs

section
variable {κ α : Type} [DecidableEq κ] {t : TypeId} {kav : κ → AV}
structure KeyFam (t : TypeId) (kav : κ → AV) : Prop where
  inj : ∀ {a b : κ}, kav a = kav b → a = b
  key : ∀ a, KeyOf Tryz.prog t (kav a)
def findG (kf : α → κ) (L : List α) (n : κ) : Option α := L.find? fun a => decide (kf a = n)
theorem nodupG (hF : KeyFam t kav) {kf : α → κ} {L : List α} (h : (L.map kf).Nodup) : (L.map fun a => kav (kf a)).Nodup := by
  have : (L.map fun a => kav (kf a)) = (L.map kf).map kav := by simp
  rw [this]
  rw [List.nodup_iff_pairwise_ne] at h ⊢
  rw [List.pairwise_map]
  exact h.imp fun hne he => hne (hF.inj he)
theorem keysG (hF : KeyFam t kav) (kf : α → κ) (L : List α) : ∀ k ∈ L.map (fun a => kav (kf a)), KeyOf Tryz.prog t k := by
  intro k hk; obtain ⟨a, _, rfl⟩ := List.mem_map.1 hk; exact hF.key _
theorem findG_mem {kf : α → κ} {L : List α} {n : κ} {a : α} (h : findG kf L n = some a) : a ∈ L ∧ kf a = n := by
  refine ⟨List.mem_of_find?_eq_some h, ?_⟩
  have := List.find?_some h
  simpa using this
theorem notinG (hF : KeyFam t kav) {kf : α → κ} {L : List α} {n : κ} (h : findG kf L n = none) : kav n ∉ L.map (fun a => kav (kf a)) := by
  intro hm
  obtain ⟨a, ha, he⟩ := List.mem_map.1 hm
  have := List.find?_eq_none.1 h a ha
  have := hF.inj he
  simp_all
theorem lookG_some (hF : KeyFam t kav) {kf : α → κ} {vf : α → AV} {L : List α} (hn : (L.map kf).Nodup) {n : κ} {a : α} (h : findG kf L n = some a) (z : AV) : LookOK Tryz.prog t (L.map fun a => kav (kf a)) (L.map vf) (kav n) (vf a) z true := by
  obtain ⟨h1, h2⟩ := findG_mem h
  refine ⟨keysG hF kf L, hF.key n, nodupG hF hn, .inl ⟨rfl, ?_⟩⟩
  obtain ⟨j, hj⟩ := List.mem_iff_getElem?.1 h1
  refine List.mem_iff_getElem?.2 ⟨j, ?_⟩
  rw [List.getElem?_zip_eq_some]
  simp [hj, h2]
theorem lookG_none (hF : KeyFam t kav) {kf : α → κ} {vf : α → AV} {L : List α} (hn : (L.map kf).Nodup) {n : κ} (h : findG kf L n = none) (z : AV) : LookOK Tryz.prog t (L.map fun a => kav (kf a)) (L.map vf) (kav n) z z false :=
  ⟨keysG hF kf L, hF.key n, nodupG hF hn, .inr ⟨rfl, notinG hF h, rfl⟩⟩
theorem putG_new (hF : KeyFam t kav) {kf : α → κ} {vf : α → AV} {L : List α} (hn : (L.map kf).Nodup) (a : α) (h : findG kf L (kf a) = none) : PutOK Tryz.prog t (L.map fun a => kav (kf a)) (L.map vf) (kav (kf a)) (vf a) ((L ++ [a]).map fun a => kav (kf a)) ((L ++ [a]).map vf) :=
  ⟨keysG hF kf L, hF.key _, nodupG hF hn, .inl ⟨notinG hF h, by simp, by simp⟩⟩
end
def ruleAV (p : Int × U8) : AV := .agg [.int .i64 p.1, .int .u8 (U8.i p.2)]
theorem ruleFam : KeyFam 163 ruleAV where
  inj {a b} h := by
    simp only [ruleAV, AV.agg.injEq, List.cons.injEq, AV.int.injEq, and_true, true_and] at h
    exact Prod.ext h.1 (U8.inj.1 h.2)
  key a := .inr ⟨[.i64, .u8], [a.1, U8.i a.2], by kernel_rfl, rfl, rfl⟩
def lawK (x : Law) : Int × U8 := (x.Land, x.Kind)
theorem inB2 (lo hi n : Int) : inB lo hi [n] = within n lo hi := by simp [inB]
theorem law_ok_eq (x : Law) : lawOK x = lawRef x := by simp only [lawOK, lawRef, inB2]
theorem still_ok_eq (x : Still) : stillOK x = stillRef x := by
  simp only [stillOK, stillRef, inB2]
  congr 2
  rw [Bool.eq_iff_iff]; simp
theorem home_ok_eq (x : Home) : homeOK x = homeRef x := by simp only [homeOK, homeRef, inB2]
theorem cmp_tri (a b : Int) : (a < b ∧ cmpI a b = -1) ∨ (a = b ∧ cmpI a b = 0) ∨ (a > b ∧ cmpI a b = 1) := by
  unfold cmpI
  (repeat' split) <;> omega
theorem law_bad_eq (y x : Law) : (!decide (lawCmp y x ≥ 0)) = !lawBad y x := by
  congr 1
  rw [Bool.eq_iff_iff, decide_eq_true_eq]
  simp only [lawCmp, lawBad, decide_eq_true_eq, Bool.or_eq_true, Bool.and_eq_true, beq_iff_eq]
  rcases cmp_tri y.Land x.Land with ⟨h1, e1⟩ | ⟨h1, e1⟩ | ⟨h1, e1⟩ <;> rcases cmp_tri (U8.i y.Kind) (U8.i x.Kind) with ⟨h2, e2⟩ | ⟨h2, e2⟩ | ⟨h2, e2⟩ <;> rw [e1, e2] <;> simp [orI] <;> omega
theorem still_bad_eq (y x : Still) : (!decide (stillCmp y x ≥ 0)) = !stillBad y x := by
  congr 1
  rw [Bool.eq_iff_iff, decide_eq_true_eq]
  simp only [stillCmp, stillBad, decide_eq_true_eq]
  rcases cmp_tri y.Land x.Land with ⟨h1, e1⟩ | ⟨h1, e1⟩ | ⟨h1, e1⟩ <;> rw [e1] <;> simp <;> omega
theorem home_bad_eq (y x : Home) : (!decide (homeCmp y x ≥ 0)) = !homeBad y x := by
  congr 1
  rw [Bool.eq_iff_iff, decide_eq_true_eq]
  simp only [homeCmp, homeBad, decide_eq_true_eq]
  rcases cmp_tri y.Account x.Account with ⟨h1, e1⟩ | ⟨h1, e1⟩ | ⟨h1, e1⟩ <;> rw [e1] <;> simp <;> omega
theorem rising_chain {α : Type} {ok ok' : α → Bool} {c : α → α → Int} {bad : α → α → Bool} (h1 : ∀ x, ok x = ok' x) (h2 : ∀ y x, (!decide (c y x ≥ 0)) = !bad y x) : ∀ (l : List α) (o : Option α), risingB ok c o l = chainB ok' bad o l
  | [], o => by cases o <;> rfl
  | x :: l, none => by simp only [risingB, chainB, h1, rising_chain h1 h2 l]
  | x :: l, some y => by simp only [risingB, chainB, h1, h2, rising_chain h1 h2 l]
theorem check_eq (c : Code) (homes : List Home) : checkI c homes = checkRefI c homes := by
  have e1 : codeB c = codeRefB c := by
    unfold codeB codeRefB
    rw [rising_chain law_ok_eq law_bad_eq, rising_chain still_ok_eq still_bad_eq]
    have a1 : decide (((c.Laws.length : Nat) : Int) ≤ 40) = !decide (((c.Laws.length : Nat) : Int) > 40) := by rw [Bool.eq_iff_iff]; simp
    have a2 : decide (((c.Stills.length : Nat) : Int) ≤ 20) = !decide (((c.Stills.length : Nat) : Int) > 20) := by rw [Bool.eq_iff_iff]; simp
    rw [a1, a2]
    cases decide (((c.Laws.length : Nat) : Int) > 40) <;> cases decide (((c.Stills.length : Nat) : Int) > 20) <;> cases chainB lawRef lawBad none c.Laws <;> cases chainB stillRef stillBad none c.Stills <;> rfl
  have e2 : homesB homes = homesRefB homes := by
    unfold homesB homesRefB
    rw [rising_chain home_ok_eq home_bad_eq]
  unfold checkI checkRefI
  rw [e1, e2]
theorem chain_all {α : Type} {ok : α → Bool} {bad : α → α → Bool} : ∀ (l : List α) (o : Option α), chainB ok bad o l = true → ∀ x ∈ l, ok x = true
  | [], o, _, x, hx => by simp at hx
  | y :: l, o, h, x, hx => by
    have h' : ok y = true ∧ chainB ok bad (some y) l = true := by
      cases o <;> simp only [chainB, Bool.and_eq_true] at h
      · exact h
      · exact ⟨h.1.1, h.2⟩
    rcases List.mem_cons.1 hx with rfl | hx
    · exact h'.1
    · exact chain_all l _ h'.2 x hx
theorem chain_pw {α : Type} {ok : α → Bool} {bad : α → α → Bool} {R : α → α → Prop} (hb : ∀ y x, bad y x = false → R y x) (ht : ∀ a b c, R a b → R b c → R a c) : ∀ (l : List α) (o : Option α), chainB ok bad o l = true → l.Pairwise R ∧ ∀ y, o = some y → ∀ x ∈ l, R y x
  | [], o, _ => ⟨List.Pairwise.nil, fun _ _ x hx => by simp at hx⟩
  | z :: l, o, h => by
    have h' : chainB ok bad (some z) l = true := by
      cases o <;> simp only [chainB, Bool.and_eq_true] at h
      · exact h.2
      · exact h.2
    obtain ⟨h1, h2⟩ := chain_pw hb ht l _ h'
    refine ⟨List.pairwise_cons.2 ⟨fun x hx => h2 z rfl x hx, h1⟩, fun y hy x hx => ?_⟩
    subst hy
    simp only [chainB, Bool.and_eq_true, Bool.not_eq_true'] at h
    have hyz := hb y z h.1.2
    rcases List.mem_cons.1 hx with rfl | hx
    · exact hyz
    · exact ht _ _ _ hyz (h2 z rfl x hx)
structure CodeOK (c : Code) (homes : List Home) : Prop where
  laws : ∀ x ∈ c.Laws, lawRef x = true
  lawsNd : (c.Laws.map lawK).Nodup
  lawsLen : c.Laws.length ≤ 40
  stills : ∀ x ∈ c.Stills, stillRef x = true
  stillsNd : (c.Stills.map Still.Land).Nodup
  stillsLen : c.Stills.length ≤ 20
  homesOk : ∀ x ∈ homes, homeRef x = true
  homesNd : (homes.map Home.Account).Nodup
  homesLen : homes.length ≤ 60
theorem code_ok {c : Code} {homes : List Home} (h : checkRefI c homes = 0) : CodeOK c homes := by
  unfold checkRefI at h
  cases hc : codeRefB c
  · rw [hc] at h; simp at h
  cases hh : homesRefB homes
  · rw [hc, hh] at h; simp at h
  unfold codeRefB at hc
  unfold homesRefB at hh
  simp only [Bool.and_eq_true, Bool.not_eq_true', decide_eq_false_iff_not] at hc hh
  have p1 := (chain_pw (R := fun y x => y.Land < x.Land ∨ (y.Land = x.Land ∧ U8.i y.Kind < U8.i x.Kind)) (fun y x hb => by
    simp only [lawBad, Bool.or_eq_false_iff, Bool.and_eq_false_iff, decide_eq_false_iff_not, beq_eq_false_iff_ne] at hb; omega) (fun a b c h1 h2 => by omega) _ _ hc.2.1).1
  have p2 := (chain_pw (R := fun y x => y.Land < x.Land) (fun y x hb => by simp only [stillBad, decide_eq_false_iff_not] at hb; omega) (fun a b c h1 h2 => by omega) _ _ hc.2.2).1
  have p3 := (chain_pw (R := fun y x => y.Account < x.Account) (fun y x hb => by simp only [homeBad, decide_eq_false_iff_not] at hb; omega) (fun a b c h1 h2 => by omega) _ _ hh.2).1
  refine ⟨chain_all _ _ hc.2.1, ?_, by omega, chain_all _ _ hc.2.2, ?_, by omega, chain_all _ _ hh.2, ?_, by omega⟩
  · rw [List.nodup_iff_pairwise_ne, List.pairwise_map]
    refine p1.imp fun {a b} hab he => ?_
    simp only [lawK, Prod.mk.injEq] at he
    rw [he.1, he.2] at hab; omega
  · rw [List.nodup_iff_pairwise_ne, List.pairwise_map]
    exact p2.imp fun {a b} hab he => by omega
  · rw [List.nodup_iff_pairwise_ne, List.pairwise_map]
    exact p3.imp fun {a b} hab he => by omega
def closedStep (C : IM) (x : Report) : IM := if (U8.i x.Kind == 7) && !(getM C x.Account).isSome then C ++ [(x.Account, x.About)] else C
def closedM (facts : List Report) : IM := facts.foldl closedStep []
theorem getM_app {M : IM} {n v : Int} (h : getM M n = none) (m : Int) : getM (M ++ [(n, v)]) m = if n = m then some v else getM M m := by
  have h1 : findK Prod.fst M n = none := by
    unfold getM at h; simpa using h
  have : putM M n v = M ++ [(n, v)] := by unfold putM putK; rw [h1]
  rw [← this, getM_put]
theorem closed_nodup : ∀ (l : List Report) (C : IM), NodupM C → NodupM (l.foldl closedStep C)
  | [], C, h => h
  | x :: l, C, h => by
    simp only [List.foldl_cons]
    refine closed_nodup l _ ?_
    unfold closedStep
    split
    · rename_i hc
      simp only [Bool.and_eq_true, Bool.not_eq_true'] at hc
      have h1 : findK Prod.fst C x.Account = none := by
        have := hc.2; unfold getM at this; simpa using this
      have : putM C x.Account x.About = C ++ [(x.Account, x.About)] := by unfold putM putK; rw [h1]
      rw [← this]; exact putM_nodup h _ _
    · exact h
theorem closed_eq (acc : Int) : ∀ (l : List Report) (C : IM) (b : Int), l.Pairwise leR → (∀ x ∈ l, 0 ≤ x.About) → (getM C acc = none ∧ b = -1 ∨ ∃ d, getM C acc = some d ∧ b = d ∧ 0 ≤ d ∧ ∀ x ∈ l, x.Account = acc → U8.i x.Kind = 7 → d ≤ x.About) →
    (getM (l.foldl closedStep C) acc = none ∧ l.foldl (closeStep acc) b = -1) ∨ ∃ d, getM (l.foldl closedStep C) acc = some d ∧ l.foldl (closeStep acc) b = d ∧ 0 ≤ d
  | [], C, b, _, _, h => by
    rcases h with ⟨h1, h2⟩ | ⟨d, h1, h2, h3, _⟩
    · exact .inl ⟨h1, h2⟩
    · exact .inr ⟨d, h1, h2, h3⟩
  | x :: l, C, b, hs, hp, h => by
    simp only [List.foldl_cons]
    obtain ⟨hs1, hs2⟩ := List.pairwise_cons.1 hs
    refine closed_eq acc l _ _ hs2 (fun y hy => hp y (by simp [hy])) ?_
    have hx0 := hp x (by simp)
    by_cases hc : U8.i x.Kind = 7 ∧ x.Account = acc
    · obtain ⟨hk, rfl⟩ := hc
      rcases h with ⟨h1, rfl⟩ | ⟨d, h1, rfl, h3, h4⟩
      · refine .inr ⟨x.About, ?_, ?_, hx0, fun y hy _ _ => ?_⟩
        · unfold closedStep
          rw [if_pos (by simp [hk, h1]), getM_app h1, if_pos rfl]
        · unfold closeStep; simp [hk]
        · have := hs1 y hy; rw [leR_iff] at this; omega
      · refine .inr ⟨b, ?_, ?_, h3, fun y hy => h4 y (by simp [hy])⟩
        · unfold closedStep
          rw [if_neg (by simp [h1])]; exact h1
        · have := h4 x (by simp) rfl hk
          unfold closeStep
          rw [if_neg]
          simp only [Bool.and_eq_true, Bool.or_eq_true, decide_eq_true_eq, beq_iff_eq]
          omega
    · have e1 : closeStep acc b x = b := by
        unfold closeStep
        rw [if_neg]
        simp only [Bool.and_eq_true, Bool.or_eq_true, decide_eq_true_eq, beq_iff_eq]
        rintro ⟨a1, a2, _⟩; exact hc ⟨a2, a1⟩
      have e2 : getM (closedStep C x) acc = getM C acc := by
        unfold closedStep
        split
        · rename_i hcc
          simp only [Bool.and_eq_true, Bool.not_eq_true', beq_iff_eq] at hcc
          have hn : getM C x.Account = none := by simpa using hcc.2
          rw [getM_app hn, if_neg fun he => hc ⟨hcc.1, he⟩]
        · rfl
      rw [e1, e2]
      rcases h with ⟨h1, h2⟩ | ⟨d, h1, h2, h3, h4⟩
      · exact .inl ⟨h1, h2⟩
      · exact .inr ⟨d, h1, h2, h3, fun y hy => h4 y (by simp [hy])⟩
theorem closed_get {facts : List Report} (hs : facts.Pairwise leR) (hp : ∀ x ∈ facts, 0 ≤ x.About) (acc : Int) : (getM (closedM facts) acc = none ∧ closingI facts acc = -1) ∨ ∃ d, getM (closedM facts) acc = some d ∧ closingI facts acc = d ∧ 0 ≤ d :=
  closed_eq acc facts [] (-1) hs hp (.inl ⟨rfl, rfl⟩)
theorem valid_about {x : Report} (h : validB x = true) : 0 ≤ x.About ∧ x.About ≤ 100000 ∧ 0 ≤ x.Made ∧ x.Made ≤ 100000 := by
  simp only [validB, within, Bool.and_eq_true, decide_eq_true_eq] at h; omega
theorem facts_about {l : List Report} (h : Fine l) (d : Int) : ∀ x ∈ factsL l d, 0 ≤ x.About ∧ x.About ≤ 100000 ∧ 0 ≤ x.Made ∧ x.Made ≤ 100000 := by
  intro x hx
  have hK := h.good d
  obtain ⟨r, hr, _, rfl⟩ := standing_mem.1 hx
  have h1 := valid_about (hK.ok r hr)
  rw [(fixR_id _ r).2.2.2.2.1]
  have h2 : (fixR (knownL l d) r).About = r.About ∨ ∃ c ∈ knownL l d, (fixR (knownL l d) r).About = c.About := by
    unfold fixR
    cases hc : correctedO (knownL l d) r.Id r with
    | none => exact .inl rfl
    | some c => exact .inr ⟨c, corr_mem _ r.Id r _ none (fun _ h => h) (fun _ h => by cases h) c hc, rfl⟩
  rcases h2 with h2 | ⟨c, hc, h2⟩
  · rw [h2]; exact h1
  · rw [h2]; have := valid_about (hK.ok c hc); omega
theorem facts_sorted (l : List Report) (d : Int) : (factsL l d).Pairwise leR := standing_sorted _
def lastP (c : Code) (homes : List Home) (facts : List Report) (r : Report) : Option Int := match findK Home.Account homes r.Account with
  | none => none
  | some h => match findG lawK c.Laws (h.Land, r.Kind) with
    | none => none
    | some x => if U8.i x.Base = 1 then some (IntKind.i64.wrap (r.About + x.Keep)) else if U8.i x.Base = 2 then some (IntKind.i64.wrap (r.Made + x.Keep)) else
      match getM (closedM facts) r.Account with
      | none => some 300000
      | some d => some (IntKind.i64.wrap (d + x.Keep))
theorem lastF_find (home : Int) (facts : List Report) (r : Report) : ∀ L : List Law, lastF home facts r L = (findG lawK L (home, r.Kind)).map (lastOfLaw facts r)
  | [] => rfl
  | x :: L => by
    simp only [lastF, findG, List.find?_cons]
    by_cases h : lawK x = (home, r.Kind)
    · have h1 : x.Land = home ∧ x.Kind = r.Kind := by simpa [lawK] using h
      simp [h, h1.1, h1.2]
    · have h1 : ¬ (x.Land = home ∧ x.Kind = r.Kind) := by simpa [lawK] using h
      have h2 : ((x.Land != home) || (U8.i x.Kind != U8.i r.Kind)) = true := by
        simp only [Bool.or_eq_true, bne_iff_ne, ne_eq, U8.inj]
        by_cases h3 : x.Land = home
        · exact .inr fun h4 => h1 ⟨h3, h4⟩
        · exact .inl h3
      simp only [h2, if_true, h, decide_false]
      exact lastF_find home facts r L
theorem land_find (homes : List Home) (acc : Int) : landI homes acc = match findK Home.Account homes acc with
    | none => -1
    | some h => h.Land := by
  unfold landI findK
  cases List.find? (fun x : Home => x.Account == acc) homes <;> rfl
theorem lastP_eq {c : Code} {homes : List Home} (hC : CodeOK c homes) {facts : List Report} (hs : facts.Pairwise leR) (hp : ∀ x ∈ facts, 0 ≤ x.About) (r : Report) : lastP c homes facts r = lastRef c homes facts r := by
  unfold lastP lastRef
  rw [lastF_find, land_find]
  cases hh : findK Home.Account homes r.Account with
  | none =>
    simp only
    have : findG lawK c.Laws (-1, r.Kind) = none := by
      refine List.find?_eq_none.2 fun x hx => ?_
      have := hC.laws x hx
      simp only [lawRef, within, Bool.and_eq_true, decide_eq_true_eq] at this
      simp only [lawK, decide_eq_true_eq, Prod.mk.injEq]
      omega
    rw [this]; rfl
  | some h =>
    simp only
    cases hf : findG lawK c.Laws (h.Land, r.Kind) with
    | none => rfl
    | some x =>
      simp only [Option.map_some, lastOfLaw, beq_iff_eq]
      by_cases h1 : U8.i x.Base = 1
      · simp [h1]
      · rw [if_neg h1, if_neg h1]
        by_cases h2 : U8.i x.Base = 2
        · simp [h2]
        · rw [if_neg h2, if_neg h2]
          rcases closed_get hs hp r.Account with ⟨a1, a2⟩ | ⟨d, a1, a2, a3⟩
          · rw [a1, a2]; rfl
          · rw [a1, a2]
            have : ¬ d < 0 := by omega
            simp [this]
end Go.Fw

set_option maxRecDepth 20000
namespace Go.Fw
open Go.Proofs

def lawKV (x : Law) : AV := ruleAV (lawK x)
def hk (x : Home) : AV := ia x.Account
def hv (x : Home) : AV := ia x.Land
theorem closed_nd (facts : List Report) : NodupM (closedM facts) := closed_nodup facts [] (by simp [NodupM])
theorem base_of {x : Law} (h : lawRef x = true) : U8.i x.Base = 1 ∨ U8.i x.Base = 2 ∨ U8.i x.Base = 3 := by
  simp only [lawRef, within, Bool.and_eq_true, decide_eq_true_eq] at h
  omega
theorem base1_ok (c : Code) (homes : List Home) (facts : List Report) (day : Int) (r : Report) : CallA Tryz.prog GT 186 [.agg [.sl (c.Laws.map Law.av), .sl (c.Stills.map Still.av), .fm (c.Laws.map lawKV) (c.Laws.map Law.av), .fm (homes.map hk) (homes.map hv), .sl (facts.map Report.av), .fm ((closedM facts).map k1) ((closedM facts).map v1), .int .i64 day], Report.av r] (.tup [.int .i64 r.About, .bool true]) := by
  refine callA_of Tryz.func186 rfl (by simp [Tryz.f186]) rfl fun B ac hB hBd hG hS => ?_
  refine runs_seq ?_
  refine reg [] [3] hG hS (env := [(3, .box 1 0)]) (own := [.box none 95 [.sl (c.Laws.map Law.av), .sl (c.Stills.map Still.av), .fm (c.Laws.map lawKV) (c.Laws.map Law.av), .fm (homes.map hk) (homes.map hv), .sl (facts.map Report.av), .fm ((closedM facts).map k1) ((closedM facts).map v1), .int .i64 day], .box none 73 [.int .i64 r.Id, .int .i64 r.Source, .int .i64 r.Account, .int .i64 r.Made, .int .i64 r.About, .int .u8 (U8.i r.Kind), .int .i64 r.Cents, .int .i64 r.Of]]) (obs := []) (by kernel_rfl) (trivial) fun ac wd hS => ?_
  refine runs_seq ?_
  refine reg [] [4, 5] hG hS (env := [(4, .int .i64 r.About), (5, .bool true)]) (own := [.box none 95 [.sl (c.Laws.map Law.av), .sl (c.Stills.map Still.av), .fm (c.Laws.map lawKV) (c.Laws.map Law.av), .fm (homes.map hk) (homes.map hv), .sl (facts.map Report.av), .fm ((closedM facts).map k1) ((closedM facts).map v1), .int .i64 day], .box none 73 [.int .i64 r.Id, .int .i64 r.Source, .int .i64 r.Account, .int .i64 r.Made, .int .i64 r.About, .int .u8 (U8.i r.Kind), .int .i64 r.Cents, .int .i64 r.Of]]) (obs := []) (by kernel_rfl) (trivial) fun ac wd hS => ?_
  rw [show (.tup [.int .i64 r.About, .bool true] : AV) = .tup [.int .i64 r.About, .bool true] from by (first | (simp []; done) | (simp []; omega) | (congr 1; simp only []; grind))]
  exact retz Tryz.func186 rfl hB hBd hS (by kernel_rfl) rfl
theorem base2_ok (c : Code) (homes : List Home) (facts : List Report) (day : Int) (r : Report) : CallA Tryz.prog GT 187 [.agg [.sl (c.Laws.map Law.av), .sl (c.Stills.map Still.av), .fm (c.Laws.map lawKV) (c.Laws.map Law.av), .fm (homes.map hk) (homes.map hv), .sl (facts.map Report.av), .fm ((closedM facts).map k1) ((closedM facts).map v1), .int .i64 day], Report.av r] (.tup [.int .i64 r.Made, .bool true]) := by
  refine callA_of Tryz.func187 rfl (by simp [Tryz.f187]) rfl fun B ac hB hBd hG hS => ?_
  refine runs_seq ?_
  refine reg [] [3] hG hS (env := [(3, .box 1 0)]) (own := [.box none 95 [.sl (c.Laws.map Law.av), .sl (c.Stills.map Still.av), .fm (c.Laws.map lawKV) (c.Laws.map Law.av), .fm (homes.map hk) (homes.map hv), .sl (facts.map Report.av), .fm ((closedM facts).map k1) ((closedM facts).map v1), .int .i64 day], .box none 73 [.int .i64 r.Id, .int .i64 r.Source, .int .i64 r.Account, .int .i64 r.Made, .int .i64 r.About, .int .u8 (U8.i r.Kind), .int .i64 r.Cents, .int .i64 r.Of]]) (obs := []) (by kernel_rfl) (trivial) fun ac wd hS => ?_
  refine runs_seq ?_
  refine reg [] [4, 5] hG hS (env := [(4, .int .i64 r.Made), (5, .bool true)]) (own := [.box none 95 [.sl (c.Laws.map Law.av), .sl (c.Stills.map Still.av), .fm (c.Laws.map lawKV) (c.Laws.map Law.av), .fm (homes.map hk) (homes.map hv), .sl (facts.map Report.av), .fm ((closedM facts).map k1) ((closedM facts).map v1), .int .i64 day], .box none 73 [.int .i64 r.Id, .int .i64 r.Source, .int .i64 r.Account, .int .i64 r.Made, .int .i64 r.About, .int .u8 (U8.i r.Kind), .int .i64 r.Cents, .int .i64 r.Of]]) (obs := []) (by kernel_rfl) (trivial) fun ac wd hS => ?_
  rw [show (.tup [.int .i64 r.Made, .bool true] : AV) = .tup [.int .i64 r.Made, .bool true] from by (first | (simp []; done) | (simp []; omega) | (congr 1; simp only []; grind))]
  exact retz Tryz.func187 rfl hB hBd hS (by kernel_rfl) rfl
theorem base3_ok (c : Code) (homes : List Home) (facts : List Report) (day : Int) (r : Report) : CallA Tryz.prog GT 188 [.agg [.sl (c.Laws.map Law.av), .sl (c.Stills.map Still.av), .fm (c.Laws.map lawKV) (c.Laws.map Law.av), .fm (homes.map hk) (homes.map hv), .sl (facts.map Report.av), .fm ((closedM facts).map k1) ((closedM facts).map v1), .int .i64 day], Report.av r] (.tup [.int .i64 ((getM (closedM facts) r.Account).getD 0), .bool (getM (closedM facts) r.Account).isSome]) := by
  refine callA_of Tryz.func188 rfl (by simp [Tryz.f188]) rfl fun B ac hB hBd hG hS => ?_
  refine runs_seq ?_
  refine reg [] [2, 3] hG hS (env := [(2, .box 0 0), (3, .box 1 0)]) (own := [.box none 95 [.sl (c.Laws.map Law.av), .sl (c.Stills.map Still.av), .fm (c.Laws.map lawKV) (c.Laws.map Law.av), .fm (homes.map hk) (homes.map hv), .sl (facts.map Report.av), .fm ((closedM facts).map k1) ((closedM facts).map v1), .int .i64 day], .box none 73 [.int .i64 r.Id, .int .i64 r.Source, .int .i64 r.Account, .int .i64 r.Made, .int .i64 r.About, .int .u8 (U8.i r.Kind), .int .i64 r.Cents, .int .i64 r.Of]]) (obs := []) (by kernel_rfl) (trivial) fun ac wd hS => ?_
  refine runs_seq ?_
  refine reg [(4, .av (.tup [.int .i64 ((getM (closedM facts) r.Account).getD 0), .bool ((getM (closedM facts) r.Account).isSome)]))] [6, 7] hG hS (env := [(6, .int .i64 ((getM (closedM facts) r.Account).getD 0)), (7, .bool ((getM (closedM facts) r.Account).isSome))]) (own := [.box none 95 [.sl (c.Laws.map Law.av), .sl (c.Stills.map Still.av), .fm (c.Laws.map lawKV) (c.Laws.map Law.av), .fm (homes.map hk) (homes.map hv), .sl (facts.map Report.av), .fm ((closedM facts).map k1) ((closedM facts).map v1), .int .i64 day], .box none 73 [.int .i64 r.Id, .int .i64 r.Source, .int .i64 r.Account, .int .i64 r.Made, .int .i64 r.About, .int .u8 (U8.i r.Kind), .int .i64 r.Cents, .int .i64 r.Of]]) (obs := [LookOK Tryz.prog 3 ((closedM facts).map k1) ((closedM facts).map v1) (.int .i64 r.Account) (.int .i64 ((getM (closedM facts) r.Account).getD 0)) (.int .i64 0) (getM (closedM facts) r.Account).isSome]) (by kernel_rfl) ((look_M (closed_nd facts) _)) fun ac wd hS => ?_
  refine runs_seq ?_
  refine reg [] [4, 5] hG hS (env := [(4, .int .i64 ((getM (closedM facts) r.Account).getD 0)), (5, .bool ((getM (closedM facts) r.Account).isSome))]) (own := [.box none 95 [.sl (c.Laws.map Law.av), .sl (c.Stills.map Still.av), .fm (c.Laws.map lawKV) (c.Laws.map Law.av), .fm (homes.map hk) (homes.map hv), .sl (facts.map Report.av), .fm ((closedM facts).map k1) ((closedM facts).map v1), .int .i64 day], .box none 73 [.int .i64 r.Id, .int .i64 r.Source, .int .i64 r.Account, .int .i64 r.Made, .int .i64 r.About, .int .u8 (U8.i r.Kind), .int .i64 r.Cents, .int .i64 r.Of]]) (obs := []) (by kernel_rfl) (trivial) fun ac wd hS => ?_
  rw [show (.tup [.int .i64 ((getM (closedM facts) r.Account).getD 0), .bool (getM (closedM facts) r.Account).isSome] : AV) = .tup [.int .i64 ((getM (closedM facts) r.Account).getD 0), .bool ((getM (closedM facts) r.Account).isSome)] from by (first | (simp []; done) | (simp []; omega) | (congr 1; simp only []; grind))]
  exact retz Tryz.func188 rfl hB hBd hS (by kernel_rfl) rfl
theorem lastB_ok (c : Code) (homes : List Home) (facts : List Report) (day : Int) (r : Report) (hC : CodeOK c homes) (hs : facts.Pairwise leR) (hp : ∀ x ∈ facts, 0 ≤ x.About) : CallA Tryz.prog GT 44 [.agg [.sl (c.Laws.map Law.av), .sl (c.Stills.map Still.av), .fm (c.Laws.map lawKV) (c.Laws.map Law.av), .fm (homes.map hk) (homes.map hv), .sl (facts.map Report.av), .fm ((closedM facts).map k1) ((closedM facts).map v1), .int .i64 day], Report.av r] (.tup [.int .i64 ((lastRef c homes facts r).getD 0), .bool (lastRef c homes facts r).isSome]) := by
  refine callA_of Tryz.func44 rfl (by simp [Tryz.f44]) rfl fun B ac hB hBd hG hS => ?_
  refine runs_seq ?_
  refine reg [] [2, 3] hG hS (env := [(2, .box 0 0), (3, .box 1 0)]) (own := [.box none 95 [.sl (c.Laws.map Law.av), .sl (c.Stills.map Still.av), .fm (c.Laws.map lawKV) (c.Laws.map Law.av), .fm (homes.map hk) (homes.map hv), .sl (facts.map Report.av), .fm ((closedM facts).map k1) ((closedM facts).map v1), .int .i64 day], .box none 73 [.int .i64 r.Id, .int .i64 r.Source, .int .i64 r.Account, .int .i64 r.Made, .int .i64 r.About, .int .u8 (U8.i r.Kind), .int .i64 r.Cents, .int .i64 r.Of]]) (obs := []) (by kernel_rfl) (trivial) fun ac wd hS => ?_
  refine runs_seq ?_
  rcases hh : findK Home.Account homes r.Account with _ | h
  · skip
    refine reg [(4, .av (.tup [.int .i64 0, .bool false]))] [2, 3, 6, 7] hG hS (env := [(2, .box 0 0), (3, .box 1 0), (6, .int .i64 0), (7, .bool false)]) (own := [.box none 95 [.sl (c.Laws.map Law.av), .sl (c.Stills.map Still.av), .fm (c.Laws.map lawKV) (c.Laws.map Law.av), .fm (homes.map hk) (homes.map hv), .sl (facts.map Report.av), .fm ((closedM facts).map k1) ((closedM facts).map v1), .int .i64 day], .box none 73 [.int .i64 r.Id, .int .i64 r.Source, .int .i64 r.Account, .int .i64 r.Made, .int .i64 r.About, .int .u8 (U8.i r.Kind), .int .i64 r.Cents, .int .i64 r.Of]]) (obs := [LookOK Tryz.prog 3 (homes.map hk) (homes.map hv) (.int .i64 r.Account) (.int .i64 0) (.int .i64 0) false]) (by kernel_rfl) ((look_none (vf := hv) hC.homesNd hh _)) fun ac wd hS => ?_
    refine runs_seq ?_
    refine runs_seq ?_
    refine reg [] [2, 3, 6, 20] hG hS (env := [(2, .box 0 0), (3, .box 1 0), (6, .int .i64 0), (20, .bool true)]) (own := [.box none 95 [.sl (c.Laws.map Law.av), .sl (c.Stills.map Still.av), .fm (c.Laws.map lawKV) (c.Laws.map Law.av), .fm (homes.map hk) (homes.map hv), .sl (facts.map Report.av), .fm ((closedM facts).map k1) ((closedM facts).map v1), .int .i64 day], .box none 73 [.int .i64 r.Id, .int .i64 r.Source, .int .i64 r.Account, .int .i64 r.Made, .int .i64 r.About, .int .u8 (U8.i r.Kind), .int .i64 r.Cents, .int .i64 r.Of]]) (obs := []) (by kernel_rfl) (trivial) fun ac wd hS => ?_
    refine cond_yes hS (c := true) (by kernel_rfl) rfl ?_
    refine runs_seq ?_
    refine reg [] [4, 5] hG hS (env := [(4, .int .i64 0), (5, .bool false)]) (own := [.box none 95 [.sl (c.Laws.map Law.av), .sl (c.Stills.map Still.av), .fm (c.Laws.map lawKV) (c.Laws.map Law.av), .fm (homes.map hk) (homes.map hv), .sl (facts.map Report.av), .fm ((closedM facts).map k1) ((closedM facts).map v1), .int .i64 day], .box none 73 [.int .i64 r.Id, .int .i64 r.Source, .int .i64 r.Account, .int .i64 r.Made, .int .i64 r.About, .int .u8 (U8.i r.Kind), .int .i64 r.Cents, .int .i64 r.Of]]) (obs := []) (by kernel_rfl) (trivial) fun ac wd hS => ?_
    rw [show (.tup [.int .i64 ((lastRef c homes facts r).getD 0), .bool (lastRef c homes facts r).isSome] : AV) = .tup [.int .i64 0, .bool false] from by (rw [← lastP_eq hC hs hp]; simp only [lastP, hh]; rfl)]
    exact retz Tryz.func44 rfl hB hBd hS (by kernel_rfl) rfl
  · skip
    refine reg [(4, .av (.tup [.int .i64 h.Land, .bool true]))] [2, 3, 6, 7] hG hS (env := [(2, .box 0 0), (3, .box 1 0), (6, .int .i64 h.Land), (7, .bool true)]) (own := [.box none 95 [.sl (c.Laws.map Law.av), .sl (c.Stills.map Still.av), .fm (c.Laws.map lawKV) (c.Laws.map Law.av), .fm (homes.map hk) (homes.map hv), .sl (facts.map Report.av), .fm ((closedM facts).map k1) ((closedM facts).map v1), .int .i64 day], .box none 73 [.int .i64 r.Id, .int .i64 r.Source, .int .i64 r.Account, .int .i64 r.Made, .int .i64 r.About, .int .u8 (U8.i r.Kind), .int .i64 r.Cents, .int .i64 r.Of]]) (obs := [LookOK Tryz.prog 3 (homes.map hk) (homes.map hv) (.int .i64 r.Account) (.int .i64 h.Land) (.int .i64 0) true]) (by kernel_rfl) ((look_some (vf := hv) hC.homesNd hh _)) fun ac wd hS => ?_
    refine runs_seq ?_
    refine runs_seq ?_
    refine reg [] [2, 3, 6, 20] hG hS (env := [(2, .box 0 0), (3, .box 1 0), (6, .int .i64 h.Land), (20, .bool false)]) (own := [.box none 95 [.sl (c.Laws.map Law.av), .sl (c.Stills.map Still.av), .fm (c.Laws.map lawKV) (c.Laws.map Law.av), .fm (homes.map hk) (homes.map hv), .sl (facts.map Report.av), .fm ((closedM facts).map k1) ((closedM facts).map v1), .int .i64 day], .box none 73 [.int .i64 r.Id, .int .i64 r.Source, .int .i64 r.Account, .int .i64 r.Made, .int .i64 r.About, .int .u8 (U8.i r.Kind), .int .i64 r.Cents, .int .i64 r.Of]]) (obs := []) (by kernel_rfl) (trivial) fun ac wd hS => ?_
    refine cond_no hS (c := false) (by kernel_rfl) rfl ?_
    refine runs_skip ?_
    refine runs_seq ?_
    rcases hl : findG lawK c.Laws (h.Land, r.Kind) with _ | x
    · skip
      refine reg [(6, .av (.tup [.agg [.int .i64 0, .int .u8 0, .int .u8 0, .int .i64 0], .bool false]))] [2, 3, 8, 7] hG hS (env := [(2, .box 0 0), (3, .box 1 0), (8, .box 2 0), (7, .bool false)]) (own := [.box none 95 [.sl (c.Laws.map Law.av), .sl (c.Stills.map Still.av), .fm (c.Laws.map lawKV) (c.Laws.map Law.av), .fm (homes.map hk) (homes.map hv), .sl (facts.map Report.av), .fm ((closedM facts).map k1) ((closedM facts).map v1), .int .i64 day], .box none 73 [.int .i64 r.Id, .int .i64 r.Source, .int .i64 r.Account, .int .i64 r.Made, .int .i64 r.About, .int .u8 (U8.i r.Kind), .int .i64 r.Cents, .int .i64 r.Of], .box none 66 [.int .i64 0, .int .u8 0, .int .u8 0, .int .i64 0]]) (obs := [LookOK Tryz.prog 163 (c.Laws.map lawKV) (c.Laws.map Law.av) (.agg [.int .i64 h.Land, .int .u8 (U8.i r.Kind)]) (.agg [.int .i64 0, .int .u8 0, .int .u8 0, .int .i64 0]) (.agg [.int .i64 0, .int .u8 0, .int .u8 0, .int .i64 0]) false]) (by kernel_rfl) ((lookG_none ruleFam (vf := Law.av) hC.lawsNd hl _)) fun ac wd hS => ?_
      refine runs_seq ?_
      refine runs_seq ?_
      refine reg [] [2, 3, 8, 32] hG hS (env := [(2, .box 0 0), (3, .box 1 0), (8, .box 2 0), (32, .bool true)]) (own := [.box none 95 [.sl (c.Laws.map Law.av), .sl (c.Stills.map Still.av), .fm (c.Laws.map lawKV) (c.Laws.map Law.av), .fm (homes.map hk) (homes.map hv), .sl (facts.map Report.av), .fm ((closedM facts).map k1) ((closedM facts).map v1), .int .i64 day], .box none 73 [.int .i64 r.Id, .int .i64 r.Source, .int .i64 r.Account, .int .i64 r.Made, .int .i64 r.About, .int .u8 (U8.i r.Kind), .int .i64 r.Cents, .int .i64 r.Of], .box none 66 [.int .i64 0, .int .u8 0, .int .u8 0, .int .i64 0]]) (obs := []) (by kernel_rfl) (trivial) fun ac wd hS => ?_
      refine cond_yes hS (c := true) (by kernel_rfl) rfl ?_
      refine runs_seq ?_
      refine reg [] [4, 5] hG hS (env := [(4, .int .i64 0), (5, .bool false)]) (own := [.box none 95 [.sl (c.Laws.map Law.av), .sl (c.Stills.map Still.av), .fm (c.Laws.map lawKV) (c.Laws.map Law.av), .fm (homes.map hk) (homes.map hv), .sl (facts.map Report.av), .fm ((closedM facts).map k1) ((closedM facts).map v1), .int .i64 day], .box none 73 [.int .i64 r.Id, .int .i64 r.Source, .int .i64 r.Account, .int .i64 r.Made, .int .i64 r.About, .int .u8 (U8.i r.Kind), .int .i64 r.Cents, .int .i64 r.Of], .box none 66 [.int .i64 0, .int .u8 0, .int .u8 0, .int .i64 0]]) (obs := []) (by kernel_rfl) (trivial) fun ac wd hS => ?_
      rw [show (.tup [.int .i64 ((lastRef c homes facts r).getD 0), .bool (lastRef c homes facts r).isSome] : AV) = .tup [.int .i64 0, .bool false] from by (rw [← lastP_eq hC hs hp]; simp only [lastP, hh, hl]; rfl)]
      exact retz Tryz.func44 rfl hB hBd hS (by kernel_rfl) rfl
    · skip
      refine reg [(6, .av (.tup [Law.av x, .bool true]))] [2, 3, 8, 7] hG hS (env := [(2, .box 0 0), (3, .box 1 0), (8, .box 2 0), (7, .bool true)]) (own := [.box none 95 [.sl (c.Laws.map Law.av), .sl (c.Stills.map Still.av), .fm (c.Laws.map lawKV) (c.Laws.map Law.av), .fm (homes.map hk) (homes.map hv), .sl (facts.map Report.av), .fm ((closedM facts).map k1) ((closedM facts).map v1), .int .i64 day], .box none 73 [.int .i64 r.Id, .int .i64 r.Source, .int .i64 r.Account, .int .i64 r.Made, .int .i64 r.About, .int .u8 (U8.i r.Kind), .int .i64 r.Cents, .int .i64 r.Of], .box none 66 [.int .i64 x.Land, .int .u8 (U8.i x.Kind), .int .u8 (U8.i x.Base), .int .i64 x.Keep]]) (obs := [LookOK Tryz.prog 163 (c.Laws.map lawKV) (c.Laws.map Law.av) (.agg [.int .i64 h.Land, .int .u8 (U8.i r.Kind)]) (Law.av x) (.agg [.int .i64 0, .int .u8 0, .int .u8 0, .int .i64 0]) true]) (by kernel_rfl) ((lookG_some ruleFam (vf := Law.av) hC.lawsNd hl _)) fun ac wd hS => ?_
      refine runs_seq ?_
      refine runs_seq ?_
      refine reg [] [2, 3, 8, 32] hG hS (env := [(2, .box 0 0), (3, .box 1 0), (8, .box 2 0), (32, .bool false)]) (own := [.box none 95 [.sl (c.Laws.map Law.av), .sl (c.Stills.map Still.av), .fm (c.Laws.map lawKV) (c.Laws.map Law.av), .fm (homes.map hk) (homes.map hv), .sl (facts.map Report.av), .fm ((closedM facts).map k1) ((closedM facts).map v1), .int .i64 day], .box none 73 [.int .i64 r.Id, .int .i64 r.Source, .int .i64 r.Account, .int .i64 r.Made, .int .i64 r.About, .int .u8 (U8.i r.Kind), .int .i64 r.Cents, .int .i64 r.Of], .box none 66 [.int .i64 x.Land, .int .u8 (U8.i x.Kind), .int .u8 (U8.i x.Base), .int .i64 x.Keep]]) (obs := []) (by kernel_rfl) (trivial) fun ac wd hS => ?_
      refine cond_no hS (c := false) (by kernel_rfl) rfl ?_
      refine runs_skip ?_
      refine runs_seq ?_
      refine runs_seq ?_
      rcases base_of (hC.laws x (findG_mem hl).1) with hb | hb | hb
      · skip
        refine drw [(2, .av (.fn (.func 186) [] [])), (6, .av (.tup [.int .i64 r.About, .bool true]))] [8, 9, 10] hG hS (env := [(8, .box 2 0), (9, .int .i64 r.About), (10, .bool true)]) (own := [.box none 95 [.sl (c.Laws.map Law.av), .sl (c.Stills.map Still.av), .fm (c.Laws.map lawKV) (c.Laws.map Law.av), .fm (homes.map hk) (homes.map hv), .sl (facts.map Report.av), .fm ((closedM facts).map k1) ((closedM facts).map v1), .int .i64 day], .box none 73 [.int .i64 r.Id, .int .i64 r.Source, .int .i64 r.Account, .int .i64 r.Made, .int .i64 r.About, .int .u8 (U8.i r.Kind), .int .i64 r.Cents, .int .i64 r.Of], .box none 66 [.int .i64 x.Land, .int .u8 (U8.i x.Kind), .int .u8 (U8.i x.Base), .int .i64 x.Keep]]) (obs := [0 ≤ (U8.i x.Base : Int) ∧ (U8.i x.Base : Int) < 4 ∧ ((([.nilfn, .fn (.func 186) [] [], .fn (.func 187) [] [], .fn (.func 188) [] []] : List AV)).drop (0 + (U8.i x.Base : Int).toNat * 1)).take 1 = AV.cells (.fn (.func 186) [] []), CallA Tryz.prog GT 186 [.agg [.sl (c.Laws.map Law.av), .sl (c.Stills.map Still.av), .fm (c.Laws.map lawKV) (c.Laws.map Law.av), .fm (homes.map hk) (homes.map hv), .sl (facts.map Report.av), .fm ((closedM facts).map k1) ((closedM facts).map v1), .int .i64 day], Report.av r] (.tup [.int .i64 r.About, .bool true])]) (by kernel_rfl) (by kernel_rfl) (⟨(by rw [hb]; exact ⟨by omega, by omega, rfl⟩), (base1_ok _ _ _ _ _)⟩) fun ac wd hS => ?_
        refine runs_seq ?_
        refine reg [] [8, 9, 43] hG hS (env := [(8, .box 2 0), (9, .int .i64 r.About), (43, .bool true)]) (own := [.box none 95 [.sl (c.Laws.map Law.av), .sl (c.Stills.map Still.av), .fm (c.Laws.map lawKV) (c.Laws.map Law.av), .fm (homes.map hk) (homes.map hv), .sl (facts.map Report.av), .fm ((closedM facts).map k1) ((closedM facts).map v1), .int .i64 day], .box none 73 [.int .i64 r.Id, .int .i64 r.Source, .int .i64 r.Account, .int .i64 r.Made, .int .i64 r.About, .int .u8 (U8.i r.Kind), .int .i64 r.Cents, .int .i64 r.Of], .box none 66 [.int .i64 x.Land, .int .u8 (U8.i x.Kind), .int .u8 (U8.i x.Base), .int .i64 x.Keep]]) (obs := []) (by kernel_rfl) (trivial) fun ac wd hS => ?_
        refine cond_yes hS (c := true) (by kernel_rfl) rfl ?_
        refine runs_seq ?_
        refine reg [] [4, 5] hG hS (env := [(4, .int .i64 (IntKind.i64.wrap (r.About + x.Keep))), (5, .bool true)]) (own := [.box none 95 [.sl (c.Laws.map Law.av), .sl (c.Stills.map Still.av), .fm (c.Laws.map lawKV) (c.Laws.map Law.av), .fm (homes.map hk) (homes.map hv), .sl (facts.map Report.av), .fm ((closedM facts).map k1) ((closedM facts).map v1), .int .i64 day], .box none 73 [.int .i64 r.Id, .int .i64 r.Source, .int .i64 r.Account, .int .i64 r.Made, .int .i64 r.About, .int .u8 (U8.i r.Kind), .int .i64 r.Cents, .int .i64 r.Of], .box none 66 [.int .i64 x.Land, .int .u8 (U8.i x.Kind), .int .u8 (U8.i x.Base), .int .i64 x.Keep]]) (obs := []) (by kernel_rfl) (trivial) fun ac wd hS => ?_
        rw [show (.tup [.int .i64 ((lastRef c homes facts r).getD 0), .bool (lastRef c homes facts r).isSome] : AV) = .tup [.int .i64 (IntKind.i64.wrap (r.About + x.Keep)), .bool true] from by (rw [← lastP_eq hC hs hp]; simp only [lastP, hh, hl, hb]; rfl)]
        exact retz Tryz.func44 rfl hB hBd hS (by kernel_rfl) rfl
      · skip
        refine drw [(2, .av (.fn (.func 187) [] [])), (6, .av (.tup [.int .i64 r.Made, .bool true]))] [8, 9, 10] hG hS (env := [(8, .box 2 0), (9, .int .i64 r.Made), (10, .bool true)]) (own := [.box none 95 [.sl (c.Laws.map Law.av), .sl (c.Stills.map Still.av), .fm (c.Laws.map lawKV) (c.Laws.map Law.av), .fm (homes.map hk) (homes.map hv), .sl (facts.map Report.av), .fm ((closedM facts).map k1) ((closedM facts).map v1), .int .i64 day], .box none 73 [.int .i64 r.Id, .int .i64 r.Source, .int .i64 r.Account, .int .i64 r.Made, .int .i64 r.About, .int .u8 (U8.i r.Kind), .int .i64 r.Cents, .int .i64 r.Of], .box none 66 [.int .i64 x.Land, .int .u8 (U8.i x.Kind), .int .u8 (U8.i x.Base), .int .i64 x.Keep]]) (obs := [0 ≤ (U8.i x.Base : Int) ∧ (U8.i x.Base : Int) < 4 ∧ ((([.nilfn, .fn (.func 186) [] [], .fn (.func 187) [] [], .fn (.func 188) [] []] : List AV)).drop (0 + (U8.i x.Base : Int).toNat * 1)).take 1 = AV.cells (.fn (.func 187) [] []), CallA Tryz.prog GT 187 [.agg [.sl (c.Laws.map Law.av), .sl (c.Stills.map Still.av), .fm (c.Laws.map lawKV) (c.Laws.map Law.av), .fm (homes.map hk) (homes.map hv), .sl (facts.map Report.av), .fm ((closedM facts).map k1) ((closedM facts).map v1), .int .i64 day], Report.av r] (.tup [.int .i64 r.Made, .bool true])]) (by kernel_rfl) (by kernel_rfl) (⟨(by rw [hb]; exact ⟨by omega, by omega, rfl⟩), (base2_ok _ _ _ _ _)⟩) fun ac wd hS => ?_
        refine runs_seq ?_
        refine reg [] [8, 9, 43] hG hS (env := [(8, .box 2 0), (9, .int .i64 r.Made), (43, .bool true)]) (own := [.box none 95 [.sl (c.Laws.map Law.av), .sl (c.Stills.map Still.av), .fm (c.Laws.map lawKV) (c.Laws.map Law.av), .fm (homes.map hk) (homes.map hv), .sl (facts.map Report.av), .fm ((closedM facts).map k1) ((closedM facts).map v1), .int .i64 day], .box none 73 [.int .i64 r.Id, .int .i64 r.Source, .int .i64 r.Account, .int .i64 r.Made, .int .i64 r.About, .int .u8 (U8.i r.Kind), .int .i64 r.Cents, .int .i64 r.Of], .box none 66 [.int .i64 x.Land, .int .u8 (U8.i x.Kind), .int .u8 (U8.i x.Base), .int .i64 x.Keep]]) (obs := []) (by kernel_rfl) (trivial) fun ac wd hS => ?_
        refine cond_yes hS (c := true) (by kernel_rfl) rfl ?_
        refine runs_seq ?_
        refine reg [] [4, 5] hG hS (env := [(4, .int .i64 (IntKind.i64.wrap (r.Made + x.Keep))), (5, .bool true)]) (own := [.box none 95 [.sl (c.Laws.map Law.av), .sl (c.Stills.map Still.av), .fm (c.Laws.map lawKV) (c.Laws.map Law.av), .fm (homes.map hk) (homes.map hv), .sl (facts.map Report.av), .fm ((closedM facts).map k1) ((closedM facts).map v1), .int .i64 day], .box none 73 [.int .i64 r.Id, .int .i64 r.Source, .int .i64 r.Account, .int .i64 r.Made, .int .i64 r.About, .int .u8 (U8.i r.Kind), .int .i64 r.Cents, .int .i64 r.Of], .box none 66 [.int .i64 x.Land, .int .u8 (U8.i x.Kind), .int .u8 (U8.i x.Base), .int .i64 x.Keep]]) (obs := []) (by kernel_rfl) (trivial) fun ac wd hS => ?_
        rw [show (.tup [.int .i64 ((lastRef c homes facts r).getD 0), .bool (lastRef c homes facts r).isSome] : AV) = .tup [.int .i64 (IntKind.i64.wrap (r.Made + x.Keep)), .bool true] from by (rw [← lastP_eq hC hs hp]; simp only [lastP, hh, hl, hb]; rfl)]
        exact retz Tryz.func44 rfl hB hBd hS (by kernel_rfl) rfl
      · skip
        refine drw [(2, .av (.fn (.func 188) [] [])), (6, .av (.tup [.int .i64 ((getM (closedM facts) r.Account).getD 0), .bool ((getM (closedM facts) r.Account).isSome)]))] [8, 9, 10] hG hS (env := [(8, .box 2 0), (9, .int .i64 ((getM (closedM facts) r.Account).getD 0)), (10, .bool ((getM (closedM facts) r.Account).isSome))]) (own := [.box none 95 [.sl (c.Laws.map Law.av), .sl (c.Stills.map Still.av), .fm (c.Laws.map lawKV) (c.Laws.map Law.av), .fm (homes.map hk) (homes.map hv), .sl (facts.map Report.av), .fm ((closedM facts).map k1) ((closedM facts).map v1), .int .i64 day], .box none 73 [.int .i64 r.Id, .int .i64 r.Source, .int .i64 r.Account, .int .i64 r.Made, .int .i64 r.About, .int .u8 (U8.i r.Kind), .int .i64 r.Cents, .int .i64 r.Of], .box none 66 [.int .i64 x.Land, .int .u8 (U8.i x.Kind), .int .u8 (U8.i x.Base), .int .i64 x.Keep]]) (obs := [0 ≤ (U8.i x.Base : Int) ∧ (U8.i x.Base : Int) < 4 ∧ ((([.nilfn, .fn (.func 186) [] [], .fn (.func 187) [] [], .fn (.func 188) [] []] : List AV)).drop (0 + (U8.i x.Base : Int).toNat * 1)).take 1 = AV.cells (.fn (.func 188) [] []), CallA Tryz.prog GT 188 [.agg [.sl (c.Laws.map Law.av), .sl (c.Stills.map Still.av), .fm (c.Laws.map lawKV) (c.Laws.map Law.av), .fm (homes.map hk) (homes.map hv), .sl (facts.map Report.av), .fm ((closedM facts).map k1) ((closedM facts).map v1), .int .i64 day], Report.av r] (.tup [.int .i64 ((getM (closedM facts) r.Account).getD 0), .bool ((getM (closedM facts) r.Account).isSome)])]) (by kernel_rfl) (by kernel_rfl) (⟨(by rw [hb]; exact ⟨by omega, by omega, rfl⟩), (base3_ok _ _ _ _ _)⟩) fun ac wd hS => ?_
        refine runs_seq ?_
        rcases Bool.eq_false_or_eq_true ((getM (closedM facts) r.Account).isSome) with hb1 | hb1
        · skip
          refine reg [(0, .dec true)] [8, 9, 43] hG hS (env := [(8, .box 2 0), (9, .int .i64 ((getM (closedM facts) r.Account).getD 0)), (43, .bool true)]) (own := [.box none 95 [.sl (c.Laws.map Law.av), .sl (c.Stills.map Still.av), .fm (c.Laws.map lawKV) (c.Laws.map Law.av), .fm (homes.map hk) (homes.map hv), .sl (facts.map Report.av), .fm ((closedM facts).map k1) ((closedM facts).map v1), .int .i64 day], .box none 73 [.int .i64 r.Id, .int .i64 r.Source, .int .i64 r.Account, .int .i64 r.Made, .int .i64 r.About, .int .u8 (U8.i r.Kind), .int .i64 r.Cents, .int .i64 r.Of], .box none 66 [.int .i64 x.Land, .int .u8 (U8.i x.Kind), .int .u8 (U8.i x.Base), .int .i64 x.Keep]]) (obs := [(getM (closedM facts) r.Account).isSome = true]) (by kernel_rfl) (hb1) fun ac wd hS => ?_
          refine cond_yes hS (c := true) (by kernel_rfl) rfl ?_
          refine runs_seq ?_
          refine reg [] [4, 5] hG hS (env := [(4, .int .i64 (IntKind.i64.wrap (((getM (closedM facts) r.Account).getD 0) + x.Keep))), (5, .bool true)]) (own := [.box none 95 [.sl (c.Laws.map Law.av), .sl (c.Stills.map Still.av), .fm (c.Laws.map lawKV) (c.Laws.map Law.av), .fm (homes.map hk) (homes.map hv), .sl (facts.map Report.av), .fm ((closedM facts).map k1) ((closedM facts).map v1), .int .i64 day], .box none 73 [.int .i64 r.Id, .int .i64 r.Source, .int .i64 r.Account, .int .i64 r.Made, .int .i64 r.About, .int .u8 (U8.i r.Kind), .int .i64 r.Cents, .int .i64 r.Of], .box none 66 [.int .i64 x.Land, .int .u8 (U8.i x.Kind), .int .u8 (U8.i x.Base), .int .i64 x.Keep]]) (obs := []) (by kernel_rfl) (trivial) fun ac wd hS => ?_
          rw [show (.tup [.int .i64 ((lastRef c homes facts r).getD 0), .bool (lastRef c homes facts r).isSome] : AV) = .tup [.int .i64 (IntKind.i64.wrap (((getM (closedM facts) r.Account).getD 0) + x.Keep)), .bool true] from by (rw [← lastP_eq hC hs hp]; obtain ⟨d9, hd9⟩ := Option.isSome_iff_exists.1 hb1; simp only [lastP, hh, hl, hb, hd9]; rfl)]
          exact retz Tryz.func44 rfl hB hBd hS (by kernel_rfl) rfl
        · skip
          refine reg [(0, .dec false)] [8, 9, 43] hG hS (env := [(8, .box 2 0), (9, .int .i64 ((getM (closedM facts) r.Account).getD 0)), (43, .bool false)]) (own := [.box none 95 [.sl (c.Laws.map Law.av), .sl (c.Stills.map Still.av), .fm (c.Laws.map lawKV) (c.Laws.map Law.av), .fm (homes.map hk) (homes.map hv), .sl (facts.map Report.av), .fm ((closedM facts).map k1) ((closedM facts).map v1), .int .i64 day], .box none 73 [.int .i64 r.Id, .int .i64 r.Source, .int .i64 r.Account, .int .i64 r.Made, .int .i64 r.About, .int .u8 (U8.i r.Kind), .int .i64 r.Cents, .int .i64 r.Of], .box none 66 [.int .i64 x.Land, .int .u8 (U8.i x.Kind), .int .u8 (U8.i x.Base), .int .i64 x.Keep]]) (obs := [(getM (closedM facts) r.Account).isSome = false]) (by kernel_rfl) (hb1) fun ac wd hS => ?_
          refine cond_no hS (c := false) (by kernel_rfl) rfl ?_
          refine runs_skip ?_
          refine runs_seq ?_
          refine reg [] [4, 5] hG hS (env := [(4, .int .i64 300000), (5, .bool true)]) (own := [.box none 95 [.sl (c.Laws.map Law.av), .sl (c.Stills.map Still.av), .fm (c.Laws.map lawKV) (c.Laws.map Law.av), .fm (homes.map hk) (homes.map hv), .sl (facts.map Report.av), .fm ((closedM facts).map k1) ((closedM facts).map v1), .int .i64 day], .box none 73 [.int .i64 r.Id, .int .i64 r.Source, .int .i64 r.Account, .int .i64 r.Made, .int .i64 r.About, .int .u8 (U8.i r.Kind), .int .i64 r.Cents, .int .i64 r.Of], .box none 66 [.int .i64 x.Land, .int .u8 (U8.i x.Kind), .int .u8 (U8.i x.Base), .int .i64 x.Keep]]) (obs := []) (by kernel_rfl) (trivial) fun ac wd hS => ?_
          rw [show (.tup [.int .i64 ((lastRef c homes facts r).getD 0), .bool (lastRef c homes facts r).isSome] : AV) = .tup [.int .i64 300000, .bool true] from by (rw [← lastP_eq hC hs hp]; have hd9 : getM (closedM facts) r.Account = none := (by simpa using hb1); simp only [lastP, hh, hl, hb, hd9]; rfl)]
          exact retz Tryz.func44 rfl hB hBd hS (by kernel_rfl) rfl
def openE (c : Code) (homes : List Home) (l : List Report) (day : Int) : Int := if (askedI c homes l != 0) then askedI c homes l else if !within day 0 100000 then 2 else 0
def burAV (c : Code) (homes : List Home) (facts : List Report) (day : Int) : AV := .agg [.sl (c.Laws.map Law.av), .sl (c.Stills.map Still.av), .fm (c.Laws.map lawKV) (c.Laws.map Law.av), .fm (homes.map hk) (homes.map hv), .sl (facts.map Report.av), .fm ((closedM facts).map k1) ((closedM facts).map v1), .int .i64 day]
def openV (c : Code) (homes : List Home) (l : List Report) (day : Int) : AV := if openE c homes l day = 0 then burAV c homes (factsL l day) day else .agg [.sl [], .sl [], .nmp, .nmp, .sl [], .nmp, .int .i64 0]
theorem stand_yes {l : List Report} {day : Int} (hf : Fine l) (hd : within day 0 100000 = true) : standA l day = (factsL l day, 0) := by
  unfold standA
  rw [hf.check, inB2, hd]; rfl
theorem stand_no {l : List Report} {day : Int} (hf : Fine l) (hd : within day 0 100000 = false) : standA l day = ([], 2) := by
  unfold standA
  rw [hf.check, inB2, hd]; rfl
theorem nd_pre {κ α : Type} [DecidableEq κ] {kf : α → κ} {L p r : List α} {x : α} (hn : (L.map kf).Nodup) (h : L = p ++ x :: r) : (p.map kf).Nodup ∧ findG kf p (kf x) = none := by
  rw [h, List.map_append, List.map_cons, List.nodup_append] at hn
  refine ⟨hn.1, List.find?_eq_none.2 fun y hy => ?_⟩
  have := hn.2.2 (kf y) (List.mem_map_of_mem hy) (kf x) (by simp)
  simpa using this
theorem nd_preK {α : Type} {kf : α → Int} {L p r : List α} {x : α} (hn : (L.map kf).Nodup) (h : L = p ++ x :: r) : (p.map kf).Nodup ∧ findK kf p (kf x) = none := by
  rw [h, List.map_append, List.map_cons, List.nodup_append] at hn
  refine ⟨hn.1, List.find?_eq_none.2 fun y hy => ?_⟩
  have := hn.2.2 (kf y) (List.mem_map_of_mem hy) (kf x) (by simp)
  simpa using this
theorem open_call (c : Code) (homes : List Home) (l : List Report) (day : Int) (hc1 : c.Laws.length ≤ 65536) (hc2 : c.Stills.length ≤ 65536) (hh : homes.length ≤ 65536) (hn : l.length ≤ 65536) : CallA Tryz.prog GT 41 [Code.av c, .sl (homes.map Home.av), .sl (l.map Report.av), .int .i64 day] (.tup [openV c homes l day, .int .i64 (openE c homes l day)]) := by
  refine callA_of Tryz.func41 rfl (by simp [Tryz.f41]) rfl fun B ac hB hBd hG hS => ?_
  refine runs_seq ?_
  refine reg [] [1, 2, 3, 4, 8] hG hS (env := [(1, .sl (homes.map Home.av)), (2, .sl (l.map Report.av)), (3, .int .i64 day), (4, .box 0 0), (8, .box 1 0)]) (own := [.box none 25 [.sl (c.Laws.map Law.av), .sl (c.Stills.map Still.av)], .box none 95 [.nsl, .nsl, .nmp, .nmp, .nsl, .nmp, .int .i64 0]]) (obs := []) (by kernel_rfl) (trivial) fun ac wd hS => ?_
  refine runs_seq ?_
  refine runs_seq ?_
  refine reg [(2, .av (.int .i64 (checkRefI c homes)))] [1, 2, 3, 4, 8, 10] hG hS (env := [(1, .sl (homes.map Home.av)), (2, .sl (l.map Report.av)), (3, .int .i64 day), (4, .box 0 0), (8, .box 1 0), (10, .int .i64 (checkRefI c homes))]) (own := [.box none 25 [.sl (c.Laws.map Law.av), .sl (c.Stills.map Still.av)], .box none 95 [.nsl, .nsl, .nmp, .nmp, .nsl, .nmp, .int .i64 0]]) (obs := [CallA Tryz.prog GT 19 [Code.av c, .sl (homes.map Home.av)] (.int .i64 (checkRefI c homes))]) (by kernel_rfl) ((by rw [← check_eq]; exact check_ok _ _ hc1 hc2 hh)) fun ac wd hS => ?_
  refine runs_seq ?_
  rcases Bool.eq_false_or_eq_true (((checkRefI c homes) != 0)) with hb1 | hb1
  · skip
    refine reg [(1, .dec true)] [1, 2, 3, 4, 8, 10, 27] hG hS (env := [(1, .sl (homes.map Home.av)), (2, .sl (l.map Report.av)), (3, .int .i64 day), (4, .box 0 0), (8, .box 1 0), (10, .int .i64 (checkRefI c homes)), (27, .bool true)]) (own := [.box none 25 [.sl (c.Laws.map Law.av), .sl (c.Stills.map Still.av)], .box none 95 [.nsl, .nsl, .nmp, .nmp, .nsl, .nmp, .int .i64 0]]) (obs := [((checkRefI c homes) != 0) = true]) (by kernel_rfl) (hb1) fun ac wd hS => ?_
    refine cond_yes hS (c := true) (by kernel_rfl) rfl ?_
    refine runs_seq ?_
    refine reg [] [8, 9] hG hS (env := [(8, .box 1 0), (9, .int .i64 (checkRefI c homes))]) (own := [.box none 25 [.sl (c.Laws.map Law.av), .sl (c.Stills.map Still.av)], .box none 95 [.nsl, .nsl, .nmp, .nmp, .nsl, .nmp, .int .i64 0]]) (obs := []) (by kernel_rfl) (trivial) fun ac wd hS => ?_
    rw [show (.tup [openV c homes l day, .int .i64 (openE c homes l day)] : AV) = .tup [.agg [.sl [], .sl [], .nmp, .nmp, .sl [], .nmp, .int .i64 0], .int .i64 (checkRefI c homes)] from by (have h9 : openE c homes l day = checkRefI c homes := (by simp only [openE, askedI, hb1, Bool.false_eq_true, if_true, if_false]); have h8 : ¬ checkRefI c homes = 0 := (by simpa using hb1); simp only [openV, h9, h8, if_false])]
    exact retz Tryz.func41 rfl hB hBd hS (by kernel_rfl) rfl
  · skip
    refine reg [(1, .dec false)] [1, 2, 3, 4, 8, 10, 27] hG hS (env := [(1, .sl (homes.map Home.av)), (2, .sl (l.map Report.av)), (3, .int .i64 day), (4, .box 0 0), (8, .box 1 0), (10, .int .i64 (checkRefI c homes)), (27, .bool false)]) (own := [.box none 25 [.sl (c.Laws.map Law.av), .sl (c.Stills.map Still.av)], .box none 95 [.nsl, .nsl, .nmp, .nmp, .nsl, .nmp, .int .i64 0]]) (obs := [((checkRefI c homes) != 0) = false]) (by kernel_rfl) (hb1) fun ac wd hS => ?_
    refine cond_no hS (c := false) (by kernel_rfl) rfl ?_
    refine runs_skip ?_
    refine runs_seq ?_
    refine runs_seq ?_
    refine reg [(1, .av (.int .i64 (checkR l)))] [1, 2, 3, 4, 8, 11] hG hS (env := [(1, .sl (homes.map Home.av)), (2, .sl (l.map Report.av)), (3, .int .i64 day), (4, .box 0 0), (8, .box 1 0), (11, .int .i64 (checkR l))]) (own := [.box none 25 [.sl (c.Laws.map Law.av), .sl (c.Stills.map Still.av)], .box none 95 [.nsl, .nsl, .nmp, .nmp, .nsl, .nmp, .int .i64 0]]) (obs := [CallA Tryz.prog GT 76 [.sl (l.map Report.av)] (.int .i64 (checkR l))]) (by kernel_rfl) ((checkA_ok _ hn)) fun ac wd hS => ?_
    refine runs_seq ?_
    rcases Bool.eq_false_or_eq_true (((checkR l) != 0)) with hb2 | hb2
    · skip
      refine reg [(1, .dec true)] [1, 2, 3, 4, 8, 11, 33] hG hS (env := [(1, .sl (homes.map Home.av)), (2, .sl (l.map Report.av)), (3, .int .i64 day), (4, .box 0 0), (8, .box 1 0), (11, .int .i64 (checkR l)), (33, .bool true)]) (own := [.box none 25 [.sl (c.Laws.map Law.av), .sl (c.Stills.map Still.av)], .box none 95 [.nsl, .nsl, .nmp, .nmp, .nsl, .nmp, .int .i64 0]]) (obs := [((checkR l) != 0) = true]) (by kernel_rfl) (hb2) fun ac wd hS => ?_
      refine cond_yes hS (c := true) (by kernel_rfl) rfl ?_
      refine runs_seq ?_
      refine reg [] [8, 9] hG hS (env := [(8, .box 1 0), (9, .int .i64 (checkR l))]) (own := [.box none 25 [.sl (c.Laws.map Law.av), .sl (c.Stills.map Still.av)], .box none 95 [.nsl, .nsl, .nmp, .nmp, .nsl, .nmp, .int .i64 0]]) (obs := []) (by kernel_rfl) (trivial) fun ac wd hS => ?_
      rw [show (.tup [openV c homes l day, .int .i64 (openE c homes l day)] : AV) = .tup [.agg [.sl [], .sl [], .nmp, .nmp, .sl [], .nmp, .int .i64 0], .int .i64 (checkR l)] from by (have h9 : openE c homes l day = checkR l := (by simp only [openE, askedI, hb1, hb2, Bool.false_eq_true, if_true, if_false]); have h8 : ¬ checkR l = 0 := (by simpa using hb2); simp only [openV, h9, h8, if_false])]
      exact retz Tryz.func41 rfl hB hBd hS (by kernel_rfl) rfl
    · skip
      refine reg [(1, .dec false)] [1, 2, 3, 4, 8, 11, 33] hG hS (env := [(1, .sl (homes.map Home.av)), (2, .sl (l.map Report.av)), (3, .int .i64 day), (4, .box 0 0), (8, .box 1 0), (11, .int .i64 (checkR l)), (33, .bool false)]) (own := [.box none 25 [.sl (c.Laws.map Law.av), .sl (c.Stills.map Still.av)], .box none 95 [.nsl, .nsl, .nmp, .nmp, .nsl, .nmp, .int .i64 0]]) (obs := [((checkR l) != 0) = false]) (by kernel_rfl) (hb2) fun ac wd hS => ?_
      refine cond_no hS (c := false) (by kernel_rfl) rfl ?_
      refine runs_skip ?_
      refine runs_seq ?_
      have hfine : Fine l := (fine_of (by simpa using hb2))
      have hC : CodeOK c homes := (code_ok (by simpa using hb1))
      rcases Bool.eq_false_or_eq_true (within day 0 100000) with hd | hd
      · skip
        refine reg [(2, .av (.tup [.sl ((factsL l day).map Report.av), .int .i64 0]))] [1, 3, 4, 8, 12, 13] hG hS (env := [(1, .sl (homes.map Home.av)), (3, .int .i64 day), (4, .box 0 0), (8, .box 1 0), (12, .sl ((factsL l day).map Report.av)), (13, .int .i64 0)]) (own := [.box none 25 [.sl (c.Laws.map Law.av), .sl (c.Stills.map Still.av)], .box none 95 [.nsl, .nsl, .nmp, .nmp, .nsl, .nmp, .int .i64 0]]) (obs := [CallA Tryz.prog GT 34 [.sl (l.map Report.av), .int .i64 day] (.tup [.sl ((factsL l day).map Report.av), .int .i64 0])]) (by kernel_rfl) ((by have h9 := standing_call l day hn; rw [stand_yes hfine hd] at h9; exact h9)) fun ac wd hS => ?_
        refine runs_seq ?_
        refine runs_seq ?_
        refine reg [] [1, 3, 4, 8, 12, 13, 43] hG hS (env := [(1, .sl (homes.map Home.av)), (3, .int .i64 day), (4, .box 0 0), (8, .box 1 0), (12, .sl ((factsL l day).map Report.av)), (13, .int .i64 0), (43, .bool false)]) (own := [.box none 25 [.sl (c.Laws.map Law.av), .sl (c.Stills.map Still.av)], .box none 95 [.nsl, .nsl, .nmp, .nmp, .nsl, .nmp, .int .i64 0]]) (obs := []) (by kernel_rfl) (trivial) fun ac wd hS => ?_
        refine cond_no hS (c := false) (by kernel_rfl) rfl ?_
        refine runs_skip ?_
        refine runs_seq ?_
        refine reg [] [1, 4, 8, 12, 14] hG hS (env := [(1, .sl (homes.map Home.av)), (4, .box 0 0), (8, .box 1 0), (12, .sl ((factsL l day).map Report.av)), (14, .box 5 0)]) (own := [.box none 25 [.sl (c.Laws.map Law.av), .sl (c.Stills.map Still.av)], .box none 95 [.nsl, .nsl, .nmp, .nmp, .nsl, .nmp, .int .i64 0], .map [] [], .map [] [], .map [] [], .box none 95 [.sl (c.Laws.map Law.av), .sl (c.Stills.map Still.av), .mp 2, .mp 3, .sl ((factsL l day).map Report.av), .mp 4, .int .i64 day]]) (obs := []) (by kernel_rfl) (trivial) fun ac wd hS => ?_
        refine runs_seq ?_
        refine runs_seq ?_
        refine reg [(2, .is ((c.Laws.length : Nat) : Int))] [1, 8, 12, 14, 54, 55, 56] hG hS (env := [(1, .sl (homes.map Home.av)), (8, .box 1 0), (12, .sl ((factsL l day).map Report.av)), (14, .box 5 0), (54, .sl (c.Laws.map Law.av)), (55, .int .i64 ((c.Laws.length : Nat) : Int)), (56, .int .i64 0)]) (own := [.box none 25 [.sl (c.Laws.map Law.av), .sl (c.Stills.map Still.av)], .box none 95 [.nsl, .nsl, .nmp, .nmp, .nsl, .nmp, .int .i64 0], .map [] [], .map [] [], .map [] [], .box none 95 [.sl (c.Laws.map Law.av), .sl (c.Stills.map Still.av), .mp 2, .mp 3, .sl ((factsL l day).map Report.av), .mp 4, .int .i64 day]]) (obs := [((c.Laws.map Law.av).length : Int) = ((c.Laws.length : Nat) : Int)]) (by kernel_rfl) (len_map) fun ac wd hS => ?_
        refine runs_block ?_
        refine runs_loop ?_
        have hinv : ∃ (pl rest : List Law), c.Laws = pl ++ rest ∧ Sat B ⟨Tryz.f41.ntmps, [(1, .sl (homes.map Home.av)), (8, .box 1 0), (12, .sl ((factsL l day).map Report.av)), (14, .box 5 0), (54, .sl (c.Laws.map Law.av)), (55, .int .i64 ((c.Laws.length : Nat) : Int)), (56, .int .i64 ((pl.length : Nat) : Int))], [.box none 25 [.sl (c.Laws.map Law.av), .sl (c.Stills.map Still.av)], .box none 95 [.nsl, .nsl, .nmp, .nmp, .nsl, .nmp, .int .i64 0], .map (pl.map lawKV) (pl.map Law.av), .map [] [], .map [] [], .box none 95 [.sl (c.Laws.map Law.av), .sl (c.Stills.map Still.av), .mp 2, .mp 3, .sl ((factsL l day).map Report.av), .mp 4, .int .i64 day]]⟩ ac wd := ⟨[], c.Laws, rfl, hS.sel [0, 1, 2, 3, 4, 5] [1, 8, 12, 14, 54, 55, 56] (by kernel_rfl)⟩
        clear hS
        obtain ⟨pl, rest, hl1, hS⟩ := hinv
        induction rest generalizing pl  ac wd with
        | nil =>
          refine runs_seq ?_
          refine reg [(0, .dec false)] [1, 8, 12, 14, 54, 55, 56, 57] hG hS (env := [(1, .sl (homes.map Home.av)), (8, .box 1 0), (12, .sl ((factsL l day).map Report.av)), (14, .box 5 0), (54, .sl (c.Laws.map Law.av)), (55, .int .i64 ((c.Laws.length : Nat) : Int)), (56, .int .i64 ((pl.length : Nat) : Int)), (57, .bool false)]) (own := [.box none 25 [.sl (c.Laws.map Law.av), .sl (c.Stills.map Still.av)], .box none 95 [.nsl, .nsl, .nmp, .nmp, .nsl, .nmp, .int .i64 0], .map (pl.map lawKV) (pl.map Law.av), .map [] [], .map [] [], .box none 95 [.sl (c.Laws.map Law.av), .sl (c.Stills.map Still.av), .mp 2, .mp 3, .sl ((factsL l day).map Report.av), .mp 4, .int .i64 day]]) (obs := [decide (((pl.length : Nat) : Int) < ((c.Laws.length : Nat) : Int)) = false]) (by kernel_rfl) ((lt_no hl1)) fun ac wd hS => ?_
          refine runs_seq ?_
          refine cond_no hS (c := false) (by kernel_rfl) rfl ?_
          refine runs_exit (by rfl) ?_
          refine runs_seq ?_
          refine runs_seq ?_
          refine reg [(1, .is ((homes.length : Nat) : Int))] [8, 12, 14, 69, 70, 71] hG hS (env := [(8, .box 1 0), (12, .sl ((factsL l day).map Report.av)), (14, .box 5 0), (69, .sl (homes.map Home.av)), (70, .int .i64 ((homes.length : Nat) : Int)), (71, .int .i64 0)]) (own := [.box none 25 [.sl (c.Laws.map Law.av), .sl (c.Stills.map Still.av)], .box none 95 [.nsl, .nsl, .nmp, .nmp, .nsl, .nmp, .int .i64 0], .map (pl.map lawKV) (pl.map Law.av), .map [] [], .map [] [], .box none 95 [.sl (c.Laws.map Law.av), .sl (c.Stills.map Still.av), .mp 2, .mp 3, .sl ((factsL l day).map Report.av), .mp 4, .int .i64 day]]) (obs := [((homes.map Home.av).length : Int) = ((homes.length : Nat) : Int)]) (by kernel_rfl) (len_map) fun ac wd hS => ?_
          refine runs_block ?_
          refine runs_loop ?_
          have hinv : ∃ (ph rest : List Home), homes = ph ++ rest ∧ Sat B ⟨Tryz.f41.ntmps, [(8, .box 1 0), (12, .sl ((factsL l day).map Report.av)), (14, .box 5 0), (69, .sl (homes.map Home.av)), (70, .int .i64 ((homes.length : Nat) : Int)), (71, .int .i64 ((ph.length : Nat) : Int))], [.box none 25 [.sl (c.Laws.map Law.av), .sl (c.Stills.map Still.av)], .box none 95 [.nsl, .nsl, .nmp, .nmp, .nsl, .nmp, .int .i64 0], .map (pl.map lawKV) (pl.map Law.av), .map (ph.map hk) (ph.map hv), .map [] [], .box none 95 [.sl (c.Laws.map Law.av), .sl (c.Stills.map Still.av), .mp 2, .mp 3, .sl ((factsL l day).map Report.av), .mp 4, .int .i64 day]]⟩ ac wd := ⟨[], homes, rfl, hS.sel [0, 1, 2, 3, 4, 5] [8, 12, 14, 69, 70, 71] (by kernel_rfl)⟩
          clear hS
          obtain ⟨ph, rest, hl2, hS⟩ := hinv
          induction rest generalizing ph  ac wd with
          | nil =>
            refine runs_seq ?_
            refine reg [(0, .dec false)] [8, 12, 14, 69, 70, 71, 72] hG hS (env := [(8, .box 1 0), (12, .sl ((factsL l day).map Report.av)), (14, .box 5 0), (69, .sl (homes.map Home.av)), (70, .int .i64 ((homes.length : Nat) : Int)), (71, .int .i64 ((ph.length : Nat) : Int)), (72, .bool false)]) (own := [.box none 25 [.sl (c.Laws.map Law.av), .sl (c.Stills.map Still.av)], .box none 95 [.nsl, .nsl, .nmp, .nmp, .nsl, .nmp, .int .i64 0], .map (pl.map lawKV) (pl.map Law.av), .map (ph.map hk) (ph.map hv), .map [] [], .box none 95 [.sl (c.Laws.map Law.av), .sl (c.Stills.map Still.av), .mp 2, .mp 3, .sl ((factsL l day).map Report.av), .mp 4, .int .i64 day]]) (obs := [decide (((ph.length : Nat) : Int) < ((homes.length : Nat) : Int)) = false]) (by kernel_rfl) ((lt_no hl2)) fun ac wd hS => ?_
            refine runs_seq ?_
            refine cond_no hS (c := false) (by kernel_rfl) rfl ?_
            refine runs_exit (by rfl) ?_
            refine runs_seq ?_
            refine runs_seq ?_
            refine reg [(1, .is (((factsL l day).length : Nat) : Int))] [8, 14, 82, 83, 84] hG hS (env := [(8, .box 1 0), (14, .box 5 0), (82, .sl ((factsL l day).map Report.av)), (83, .int .i64 (((factsL l day).length : Nat) : Int)), (84, .int .i64 0)]) (own := [.box none 25 [.sl (c.Laws.map Law.av), .sl (c.Stills.map Still.av)], .box none 95 [.nsl, .nsl, .nmp, .nmp, .nsl, .nmp, .int .i64 0], .map (pl.map lawKV) (pl.map Law.av), .map (ph.map hk) (ph.map hv), .map [] [], .box none 95 [.sl (c.Laws.map Law.av), .sl (c.Stills.map Still.av), .mp 2, .mp 3, .sl ((factsL l day).map Report.av), .mp 4, .int .i64 day]]) (obs := [(((factsL l day).map Report.av).length : Int) = (((factsL l day).length : Nat) : Int)]) (by kernel_rfl) (len_map) fun ac wd hS => ?_
            refine runs_block ?_
            refine runs_loop ?_
            have hinv : ∃ (pf rest : List Report) (C : IM), (factsL l day) = pf ++ rest ∧ (closedM (factsL l day) = rest.foldl closedStep C) ∧ (NodupM C) ∧ Sat B ⟨Tryz.f41.ntmps, [(8, .box 1 0), (14, .box 5 0), (82, .sl ((factsL l day).map Report.av)), (83, .int .i64 (((factsL l day).length : Nat) : Int)), (84, .int .i64 ((pf.length : Nat) : Int))], [.box none 25 [.sl (c.Laws.map Law.av), .sl (c.Stills.map Still.av)], .box none 95 [.nsl, .nsl, .nmp, .nmp, .nsl, .nmp, .int .i64 0], .map (pl.map lawKV) (pl.map Law.av), .map (ph.map hk) (ph.map hv), .map (C.map k1) (C.map v1), .box none 95 [.sl (c.Laws.map Law.av), .sl (c.Stills.map Still.av), .mp 2, .mp 3, .sl ((factsL l day).map Report.av), .mp 4, .int .i64 day]]⟩ ac wd := ⟨[], (factsL l day), [], rfl, rfl, (by simp [NodupM]), hS.sel [0, 1, 2, 3, 4, 5] [8, 14, 82, 83, 84] (by kernel_rfl)⟩
            clear hS
            obtain ⟨pf, rest, C, hl3, hcl, hCn, hS⟩ := hinv
            induction rest generalizing pf C ac wd with
            | nil =>
              refine runs_seq ?_
              refine reg [(0, .dec false)] [8, 14, 82, 83, 84, 85] hG hS (env := [(8, .box 1 0), (14, .box 5 0), (82, .sl ((factsL l day).map Report.av)), (83, .int .i64 (((factsL l day).length : Nat) : Int)), (84, .int .i64 ((pf.length : Nat) : Int)), (85, .bool false)]) (own := [.box none 25 [.sl (c.Laws.map Law.av), .sl (c.Stills.map Still.av)], .box none 95 [.nsl, .nsl, .nmp, .nmp, .nsl, .nmp, .int .i64 0], .map (pl.map lawKV) (pl.map Law.av), .map (ph.map hk) (ph.map hv), .map (C.map k1) (C.map v1), .box none 95 [.sl (c.Laws.map Law.av), .sl (c.Stills.map Still.av), .mp 2, .mp 3, .sl ((factsL l day).map Report.av), .mp 4, .int .i64 day]]) (obs := [decide (((pf.length : Nat) : Int) < (((factsL l day).length : Nat) : Int)) = false]) (by kernel_rfl) ((lt_no hl3)) fun ac wd hS => ?_
              refine runs_seq ?_
              refine cond_no hS (c := false) (by kernel_rfl) rfl ?_
              refine runs_exit (by rfl) ?_
              refine runs_seq ?_
              refine reg [] [8, 9] hG hS (env := [(8, .box 1 0), (9, .int .i64 0)]) (own := [.box none 25 [.sl (c.Laws.map Law.av), .sl (c.Stills.map Still.av)], .box none 95 [.sl (c.Laws.map Law.av), .sl (c.Stills.map Still.av), .mp 2, .mp 3, .sl ((factsL l day).map Report.av), .mp 4, .int .i64 day], .map (pl.map lawKV) (pl.map Law.av), .map (ph.map hk) (ph.map hv), .map (C.map k1) (C.map v1), .box none 95 [.sl (c.Laws.map Law.av), .sl (c.Stills.map Still.av), .mp 2, .mp 3, .sl ((factsL l day).map Report.av), .mp 4, .int .i64 day]]) (obs := []) (by kernel_rfl) (trivial) fun ac wd hS => ?_
              rw [show (.tup [openV c homes l day, .int .i64 (openE c homes l day)] : AV) = .tup [.agg [.sl (c.Laws.map Law.av), .sl (c.Stills.map Still.av), .fm (pl.map lawKV) (pl.map Law.av), .fm (ph.map hk) (ph.map hv), .sl ((factsL l day).map Report.av), .fm (C.map k1) (C.map v1), .int .i64 day], .int .i64 0] from by (have h7 : (askedI c homes l != 0) = false := (by simp only [askedI, hb1, hb2, Bool.false_eq_true, if_false]); have h9 : openE c homes l day = 0 := (by simp only [openE, h7, hd, Bool.false_eq_true, if_false, Bool.not_true]); simp only [openV, h9, if_true, burAV, hcl, List.foldl_nil]; rw [hl1, hl2]; simp only [List.append_nil])]
              exact retz Tryz.func41 rfl hB hBd hS (by kernel_rfl) rfl
            | cons x rest ihx =>
              refine runs_seq ?_
              refine reg [(0, .dec true)] [8, 14, 82, 83, 84, 85] hG hS (env := [(8, .box 1 0), (14, .box 5 0), (82, .sl ((factsL l day).map Report.av)), (83, .int .i64 (((factsL l day).length : Nat) : Int)), (84, .int .i64 ((pf.length : Nat) : Int)), (85, .bool true)]) (own := [.box none 25 [.sl (c.Laws.map Law.av), .sl (c.Stills.map Still.av)], .box none 95 [.nsl, .nsl, .nmp, .nmp, .nsl, .nmp, .int .i64 0], .map (pl.map lawKV) (pl.map Law.av), .map (ph.map hk) (ph.map hv), .map (C.map k1) (C.map v1), .box none 95 [.sl (c.Laws.map Law.av), .sl (c.Stills.map Still.av), .mp 2, .mp 3, .sl ((factsL l day).map Report.av), .mp 4, .int .i64 day]]) (obs := [decide (((pf.length : Nat) : Int) < (((factsL l day).length : Nat) : Int)) = true]) (by kernel_rfl) ((lt_yes hl3)) fun ac wd hS => ?_
              refine runs_seq ?_
              refine cond_yes hS (c := true) (by kernel_rfl) rfl ?_
              refine runs_skip ?_
              refine runs_seq ?_
              refine runs_block ?_
              refine runs_seq ?_
              refine reg [(0, .av (Report.av x))] [8, 14, 82, 83, 84, 20] hG hS (env := [(8, .box 1 0), (14, .box 5 0), (82, .sl ((factsL l day).map Report.av)), (83, .int .i64 (((factsL l day).length : Nat) : Int)), (84, .int .i64 ((pf.length : Nat) : Int)), (20, .box 6 0)]) (own := [.box none 25 [.sl (c.Laws.map Law.av), .sl (c.Stills.map Still.av)], .box none 95 [.nsl, .nsl, .nmp, .nmp, .nsl, .nmp, .int .i64 0], .map (pl.map lawKV) (pl.map Law.av), .map (ph.map hk) (ph.map hv), .map (C.map k1) (C.map v1), .box none 95 [.sl (c.Laws.map Law.av), .sl (c.Stills.map Still.av), .mp 2, .mp 3, .sl ((factsL l day).map Report.av), .mp 4, .int .i64 day], .box none 73 [.int .i64 x.Id, .int .i64 x.Source, .int .i64 x.Account, .int .i64 x.Made, .int .i64 x.About, .int .u8 (U8.i x.Kind), .int .i64 x.Cents, .int .i64 x.Of]]) (obs := [0 ≤ (((pf.length : Nat) : Int) : Int) ∧ ((factsL l day).map Report.av : List AV)[(((pf.length : Nat) : Int) : Int).toNat]? = some (Report.av x)]) (by kernel_rfl) ((idx_ok hl3)) fun ac wd hS => ?_
              refine runs_seq ?_
              refine reg [(4, .av (.tup [.int .i64 ((getM C x.Account).getD 0), .bool ((getM C x.Account).isSome)]))] [8, 14, 82, 83, 84, 20, 22] hG hS (env := [(8, .box 1 0), (14, .box 5 0), (82, .sl ((factsL l day).map Report.av)), (83, .int .i64 (((factsL l day).length : Nat) : Int)), (84, .int .i64 ((pf.length : Nat) : Int)), (20, .box 6 0), (22, .bool ((getM C x.Account).isSome))]) (own := [.box none 25 [.sl (c.Laws.map Law.av), .sl (c.Stills.map Still.av)], .box none 95 [.nsl, .nsl, .nmp, .nmp, .nsl, .nmp, .int .i64 0], .map (pl.map lawKV) (pl.map Law.av), .map (ph.map hk) (ph.map hv), .map (C.map k1) (C.map v1), .box none 95 [.sl (c.Laws.map Law.av), .sl (c.Stills.map Still.av), .mp 2, .mp 3, .sl ((factsL l day).map Report.av), .mp 4, .int .i64 day], .box none 73 [.int .i64 x.Id, .int .i64 x.Source, .int .i64 x.Account, .int .i64 x.Made, .int .i64 x.About, .int .u8 (U8.i x.Kind), .int .i64 x.Cents, .int .i64 x.Of]]) (obs := [LookOK Tryz.prog 3 (C.map k1) (C.map v1) (.int .i64 x.Account) (.int .i64 ((getM C x.Account).getD 0)) (.int .i64 0) (getM C x.Account).isSome]) (by kernel_rfl) ((look_M hCn _)) fun ac wd hS => ?_
              refine runs_seq ?_
              rcases Bool.eq_false_or_eq_true (((U8.i x.Kind) == 7)) with hb3 | hb3
              · skip
                rcases Bool.eq_false_or_eq_true ((getM C x.Account).isSome) with hb4 | hb4
                · skip
                  refine reg [(3, .dec true), (6, .dec false)] [8, 14, 82, 83, 84, 20, 102] hG hS (env := [(8, .box 1 0), (14, .box 5 0), (82, .sl ((factsL l day).map Report.av)), (83, .int .i64 (((factsL l day).length : Nat) : Int)), (84, .int .i64 ((pf.length : Nat) : Int)), (20, .box 6 0), (102, .bool false)]) (own := [.box none 25 [.sl (c.Laws.map Law.av), .sl (c.Stills.map Still.av)], .box none 95 [.nsl, .nsl, .nmp, .nmp, .nsl, .nmp, .int .i64 0], .map (pl.map lawKV) (pl.map Law.av), .map (ph.map hk) (ph.map hv), .map (C.map k1) (C.map v1), .box none 95 [.sl (c.Laws.map Law.av), .sl (c.Stills.map Still.av), .mp 2, .mp 3, .sl ((factsL l day).map Report.av), .mp 4, .int .i64 day], .box none 73 [.int .i64 x.Id, .int .i64 x.Source, .int .i64 x.Account, .int .i64 x.Made, .int .i64 x.About, .int .u8 (U8.i x.Kind), .int .i64 x.Cents, .int .i64 x.Of]]) (obs := [((U8.i x.Kind) == 7) = true, (!(getM C x.Account).isSome) = false]) (by kernel_rfl) (⟨hb3, by rw [hb4]; rfl⟩) fun ac wd hS => ?_
                  refine cond_no hS (c := false) (by kernel_rfl) rfl ?_
                  refine runs_skip ?_
                  refine runs_inBlock ?_
                  refine reg [(0, .is (((pf ++ [x]).length : Nat) : Int))] [8, 14, 82, 83, 84] hG hS (env := [(8, .box 1 0), (14, .box 5 0), (82, .sl ((factsL l day).map Report.av)), (83, .int .i64 (((factsL l day).length : Nat) : Int)), (84, .int .i64 (((pf ++ [x]).length : Nat) : Int))]) (own := [.box none 25 [.sl (c.Laws.map Law.av), .sl (c.Stills.map Still.av)], .box none 95 [.nsl, .nsl, .nmp, .nmp, .nsl, .nmp, .int .i64 0], .map (pl.map lawKV) (pl.map Law.av), .map (ph.map hk) (ph.map hv), .map (C.map k1) (C.map v1), .box none 95 [.sl (c.Laws.map Law.av), .sl (c.Stills.map Still.av), .mp 2, .mp 3, .sl ((factsL l day).map Report.av), .mp 4, .int .i64 day], .box none 73 [.int .i64 x.Id, .int .i64 x.Source, .int .i64 x.Account, .int .i64 x.Made, .int .i64 x.About, .int .u8 (U8.i x.Kind), .int .i64 x.Cents, .int .i64 x.Of]]) (obs := [IntKind.i64.wrap (((pf.length : Nat) : Int) + 1) = (((pf ++ [x]).length : Nat) : Int)]) (by kernel_rfl) ((next_len hl3 (by have h9 := hfine.flen day; omega))) fun ac wd hS => ?_
                  refine runs_inLoop ?_
                  exact ihx _ _ (pf ++ [x]) C (next_eq hl3) (by rw [hcl]; simp only [List.foldl_cons, closedStep, hb3, hb4, Bool.and_true, Bool.true_and, Bool.and_false, Bool.false_and, Bool.or_true, Bool.true_or, Bool.or_false, Bool.false_or, Bool.not_true, Bool.not_false, Bool.false_eq_true, if_true, if_false]) (by have h9 := closed_nodup [x] C hCn; simp only [List.foldl_cons, List.foldl_nil, closedStep, hb3, hb4, Bool.and_true, Bool.true_and, Bool.and_false, Bool.false_and, Bool.or_true, Bool.true_or, Bool.or_false, Bool.false_or, Bool.not_true, Bool.not_false, Bool.false_eq_true, if_true, if_false] at h9; exact h9) (hS.sel [0, 1, 2, 3, 4, 5] [8, 14, 82, 83, 84] (by kernel_rfl))
                · skip
                  refine reg [(3, .dec true), (6, .dec true)] [8, 14, 82, 83, 84, 20, 102] hG hS (env := [(8, .box 1 0), (14, .box 5 0), (82, .sl ((factsL l day).map Report.av)), (83, .int .i64 (((factsL l day).length : Nat) : Int)), (84, .int .i64 ((pf.length : Nat) : Int)), (20, .box 6 0), (102, .bool true)]) (own := [.box none 25 [.sl (c.Laws.map Law.av), .sl (c.Stills.map Still.av)], .box none 95 [.nsl, .nsl, .nmp, .nmp, .nsl, .nmp, .int .i64 0], .map (pl.map lawKV) (pl.map Law.av), .map (ph.map hk) (ph.map hv), .map (C.map k1) (C.map v1), .box none 95 [.sl (c.Laws.map Law.av), .sl (c.Stills.map Still.av), .mp 2, .mp 3, .sl ((factsL l day).map Report.av), .mp 4, .int .i64 day], .box none 73 [.int .i64 x.Id, .int .i64 x.Source, .int .i64 x.Account, .int .i64 x.Made, .int .i64 x.About, .int .u8 (U8.i x.Kind), .int .i64 x.Cents, .int .i64 x.Of]]) (obs := [((U8.i x.Kind) == 7) = true, (!(getM C x.Account).isSome) = true]) (by kernel_rfl) (⟨hb3, by rw [hb4]; rfl⟩) fun ac wd hS => ?_
                  refine cond_yes hS (c := true) (by kernel_rfl) rfl ?_
                  refine reg [(6, .put ((C ++ [(x.Account, x.About)]).map k1) ((C ++ [(x.Account, x.About)]).map v1))] [8, 14, 82, 83, 84] hG hS (env := [(8, .box 1 0), (14, .box 5 0), (82, .sl ((factsL l day).map Report.av)), (83, .int .i64 (((factsL l day).length : Nat) : Int)), (84, .int .i64 ((pf.length : Nat) : Int))]) (own := [.box none 25 [.sl (c.Laws.map Law.av), .sl (c.Stills.map Still.av)], .box none 95 [.nsl, .nsl, .nmp, .nmp, .nsl, .nmp, .int .i64 0], .map (pl.map lawKV) (pl.map Law.av), .map (ph.map hk) (ph.map hv), .map ((C ++ [(x.Account, x.About)]).map k1) ((C ++ [(x.Account, x.About)]).map v1), .box none 95 [.sl (c.Laws.map Law.av), .sl (c.Stills.map Still.av), .mp 2, .mp 3, .sl ((factsL l day).map Report.av), .mp 4, .int .i64 day], .box none 73 [.int .i64 x.Id, .int .i64 x.Source, .int .i64 x.Account, .int .i64 x.Made, .int .i64 x.About, .int .u8 (U8.i x.Kind), .int .i64 x.Cents, .int .i64 x.Of]]) (obs := [PutOK Tryz.prog 3 (C.map k1) (C.map v1) (.int .i64 x.Account) (.int .i64 x.About) ((C ++ [(x.Account, x.About)]).map k1) ((C ++ [(x.Account, x.About)]).map v1)]) (by kernel_rfl) ((put_new (kf := Prod.fst) (vf := v1) hCn (x.Account, x.About) (by have h9 := hb4; unfold getM at h9; simpa using h9))) fun ac wd hS => ?_
                  refine runs_inBlock ?_
                  refine reg [(0, .is (((pf ++ [x]).length : Nat) : Int))] [8, 14, 82, 83, 84] hG hS (env := [(8, .box 1 0), (14, .box 5 0), (82, .sl ((factsL l day).map Report.av)), (83, .int .i64 (((factsL l day).length : Nat) : Int)), (84, .int .i64 (((pf ++ [x]).length : Nat) : Int))]) (own := [.box none 25 [.sl (c.Laws.map Law.av), .sl (c.Stills.map Still.av)], .box none 95 [.nsl, .nsl, .nmp, .nmp, .nsl, .nmp, .int .i64 0], .map (pl.map lawKV) (pl.map Law.av), .map (ph.map hk) (ph.map hv), .map ((C ++ [(x.Account, x.About)]).map k1) ((C ++ [(x.Account, x.About)]).map v1), .box none 95 [.sl (c.Laws.map Law.av), .sl (c.Stills.map Still.av), .mp 2, .mp 3, .sl ((factsL l day).map Report.av), .mp 4, .int .i64 day], .box none 73 [.int .i64 x.Id, .int .i64 x.Source, .int .i64 x.Account, .int .i64 x.Made, .int .i64 x.About, .int .u8 (U8.i x.Kind), .int .i64 x.Cents, .int .i64 x.Of]]) (obs := [IntKind.i64.wrap (((pf.length : Nat) : Int) + 1) = (((pf ++ [x]).length : Nat) : Int)]) (by kernel_rfl) ((next_len hl3 (by have h9 := hfine.flen day; omega))) fun ac wd hS => ?_
                  refine runs_inLoop ?_
                  exact ihx _ _ (pf ++ [x]) (C ++ [(x.Account, x.About)]) (next_eq hl3) (by rw [hcl]; simp only [List.foldl_cons, closedStep, hb3, hb4, Bool.and_true, Bool.true_and, Bool.and_false, Bool.false_and, Bool.or_true, Bool.true_or, Bool.or_false, Bool.false_or, Bool.not_true, Bool.not_false, Bool.false_eq_true, if_true, if_false]) (by have h9 := closed_nodup [x] C hCn; simp only [List.foldl_cons, List.foldl_nil, closedStep, hb3, hb4, Bool.and_true, Bool.true_and, Bool.and_false, Bool.false_and, Bool.or_true, Bool.true_or, Bool.or_false, Bool.false_or, Bool.not_true, Bool.not_false, Bool.false_eq_true, if_true, if_false] at h9; exact h9) (hS.sel [0, 1, 2, 3, 4, 5] [8, 14, 82, 83, 84] (by kernel_rfl))
              · skip
                refine reg [(3, .dec false)] [8, 14, 82, 83, 84, 20, 102] hG hS (env := [(8, .box 1 0), (14, .box 5 0), (82, .sl ((factsL l day).map Report.av)), (83, .int .i64 (((factsL l day).length : Nat) : Int)), (84, .int .i64 ((pf.length : Nat) : Int)), (20, .box 6 0), (102, .bool false)]) (own := [.box none 25 [.sl (c.Laws.map Law.av), .sl (c.Stills.map Still.av)], .box none 95 [.nsl, .nsl, .nmp, .nmp, .nsl, .nmp, .int .i64 0], .map (pl.map lawKV) (pl.map Law.av), .map (ph.map hk) (ph.map hv), .map (C.map k1) (C.map v1), .box none 95 [.sl (c.Laws.map Law.av), .sl (c.Stills.map Still.av), .mp 2, .mp 3, .sl ((factsL l day).map Report.av), .mp 4, .int .i64 day], .box none 73 [.int .i64 x.Id, .int .i64 x.Source, .int .i64 x.Account, .int .i64 x.Made, .int .i64 x.About, .int .u8 (U8.i x.Kind), .int .i64 x.Cents, .int .i64 x.Of]]) (obs := [((U8.i x.Kind) == 7) = false]) (by kernel_rfl) (hb3) fun ac wd hS => ?_
                refine cond_no hS (c := false) (by kernel_rfl) rfl ?_
                refine runs_skip ?_
                refine runs_inBlock ?_
                refine reg [(0, .is (((pf ++ [x]).length : Nat) : Int))] [8, 14, 82, 83, 84] hG hS (env := [(8, .box 1 0), (14, .box 5 0), (82, .sl ((factsL l day).map Report.av)), (83, .int .i64 (((factsL l day).length : Nat) : Int)), (84, .int .i64 (((pf ++ [x]).length : Nat) : Int))]) (own := [.box none 25 [.sl (c.Laws.map Law.av), .sl (c.Stills.map Still.av)], .box none 95 [.nsl, .nsl, .nmp, .nmp, .nsl, .nmp, .int .i64 0], .map (pl.map lawKV) (pl.map Law.av), .map (ph.map hk) (ph.map hv), .map (C.map k1) (C.map v1), .box none 95 [.sl (c.Laws.map Law.av), .sl (c.Stills.map Still.av), .mp 2, .mp 3, .sl ((factsL l day).map Report.av), .mp 4, .int .i64 day], .box none 73 [.int .i64 x.Id, .int .i64 x.Source, .int .i64 x.Account, .int .i64 x.Made, .int .i64 x.About, .int .u8 (U8.i x.Kind), .int .i64 x.Cents, .int .i64 x.Of]]) (obs := [IntKind.i64.wrap (((pf.length : Nat) : Int) + 1) = (((pf ++ [x]).length : Nat) : Int)]) (by kernel_rfl) ((next_len hl3 (by have h9 := hfine.flen day; omega))) fun ac wd hS => ?_
                refine runs_inLoop ?_
                exact ihx _ _ (pf ++ [x]) C (next_eq hl3) (by rw [hcl]; simp only [List.foldl_cons, closedStep, hb3, Bool.and_true, Bool.true_and, Bool.and_false, Bool.false_and, Bool.or_true, Bool.true_or, Bool.or_false, Bool.false_or, Bool.not_true, Bool.not_false, Bool.false_eq_true, if_true, if_false]) (by have h9 := closed_nodup [x] C hCn; simp only [List.foldl_cons, List.foldl_nil, closedStep, hb3, Bool.and_true, Bool.true_and, Bool.and_false, Bool.false_and, Bool.or_true, Bool.true_or, Bool.or_false, Bool.false_or, Bool.not_true, Bool.not_false, Bool.false_eq_true, if_true, if_false] at h9; exact h9) (hS.sel [0, 1, 2, 3, 4, 5] [8, 14, 82, 83, 84] (by kernel_rfl))
          | cons x rest ihx =>
            refine runs_seq ?_
            refine reg [(0, .dec true)] [8, 12, 14, 69, 70, 71, 72] hG hS (env := [(8, .box 1 0), (12, .sl ((factsL l day).map Report.av)), (14, .box 5 0), (69, .sl (homes.map Home.av)), (70, .int .i64 ((homes.length : Nat) : Int)), (71, .int .i64 ((ph.length : Nat) : Int)), (72, .bool true)]) (own := [.box none 25 [.sl (c.Laws.map Law.av), .sl (c.Stills.map Still.av)], .box none 95 [.nsl, .nsl, .nmp, .nmp, .nsl, .nmp, .int .i64 0], .map (pl.map lawKV) (pl.map Law.av), .map (ph.map hk) (ph.map hv), .map [] [], .box none 95 [.sl (c.Laws.map Law.av), .sl (c.Stills.map Still.av), .mp 2, .mp 3, .sl ((factsL l day).map Report.av), .mp 4, .int .i64 day]]) (obs := [decide (((ph.length : Nat) : Int) < ((homes.length : Nat) : Int)) = true]) (by kernel_rfl) ((lt_yes hl2)) fun ac wd hS => ?_
            refine runs_seq ?_
            refine cond_yes hS (c := true) (by kernel_rfl) rfl ?_
            refine runs_skip ?_
            refine runs_seq ?_
            refine runs_block ?_
            refine runs_seq ?_
            refine reg [(0, .av (Home.av x))] [8, 12, 14, 69, 70, 71, 18] hG hS (env := [(8, .box 1 0), (12, .sl ((factsL l day).map Report.av)), (14, .box 5 0), (69, .sl (homes.map Home.av)), (70, .int .i64 ((homes.length : Nat) : Int)), (71, .int .i64 ((ph.length : Nat) : Int)), (18, .box 6 0)]) (own := [.box none 25 [.sl (c.Laws.map Law.av), .sl (c.Stills.map Still.av)], .box none 95 [.nsl, .nsl, .nmp, .nmp, .nsl, .nmp, .int .i64 0], .map (pl.map lawKV) (pl.map Law.av), .map (ph.map hk) (ph.map hv), .map [] [], .box none 95 [.sl (c.Laws.map Law.av), .sl (c.Stills.map Still.av), .mp 2, .mp 3, .sl ((factsL l day).map Report.av), .mp 4, .int .i64 day], .box none 68 [.int .i64 x.Account, .int .i64 x.Land]]) (obs := [0 ≤ (((ph.length : Nat) : Int) : Int) ∧ (homes.map Home.av : List AV)[(((ph.length : Nat) : Int) : Int).toNat]? = some (Home.av x)]) (by kernel_rfl) ((idx_ok hl2)) fun ac wd hS => ?_
            refine reg [(6, .put ((ph ++ [x]).map hk) ((ph ++ [x]).map hv))] [8, 12, 14, 69, 70, 71] hG hS (env := [(8, .box 1 0), (12, .sl ((factsL l day).map Report.av)), (14, .box 5 0), (69, .sl (homes.map Home.av)), (70, .int .i64 ((homes.length : Nat) : Int)), (71, .int .i64 ((ph.length : Nat) : Int))]) (own := [.box none 25 [.sl (c.Laws.map Law.av), .sl (c.Stills.map Still.av)], .box none 95 [.nsl, .nsl, .nmp, .nmp, .nsl, .nmp, .int .i64 0], .map (pl.map lawKV) (pl.map Law.av), .map ((ph ++ [x]).map hk) ((ph ++ [x]).map hv), .map [] [], .box none 95 [.sl (c.Laws.map Law.av), .sl (c.Stills.map Still.av), .mp 2, .mp 3, .sl ((factsL l day).map Report.av), .mp 4, .int .i64 day], .box none 68 [.int .i64 x.Account, .int .i64 x.Land]]) (obs := [PutOK Tryz.prog 3 (ph.map hk) (ph.map hv) (.int .i64 x.Account) (.int .i64 x.Land) ((ph ++ [x]).map hk) ((ph ++ [x]).map hv)]) (by kernel_rfl) ((put_new (kf := Home.Account) (vf := hv) (nd_preK hC.homesNd hl2).1 x (nd_preK hC.homesNd hl2).2)) fun ac wd hS => ?_
            refine runs_inBlock ?_
            refine reg [(0, .is (((ph ++ [x]).length : Nat) : Int))] [8, 12, 14, 69, 70, 71] hG hS (env := [(8, .box 1 0), (12, .sl ((factsL l day).map Report.av)), (14, .box 5 0), (69, .sl (homes.map Home.av)), (70, .int .i64 ((homes.length : Nat) : Int)), (71, .int .i64 (((ph ++ [x]).length : Nat) : Int))]) (own := [.box none 25 [.sl (c.Laws.map Law.av), .sl (c.Stills.map Still.av)], .box none 95 [.nsl, .nsl, .nmp, .nmp, .nsl, .nmp, .int .i64 0], .map (pl.map lawKV) (pl.map Law.av), .map ((ph ++ [x]).map hk) ((ph ++ [x]).map hv), .map [] [], .box none 95 [.sl (c.Laws.map Law.av), .sl (c.Stills.map Still.av), .mp 2, .mp 3, .sl ((factsL l day).map Report.av), .mp 4, .int .i64 day], .box none 68 [.int .i64 x.Account, .int .i64 x.Land]]) (obs := [IntKind.i64.wrap (((ph.length : Nat) : Int) + 1) = (((ph ++ [x]).length : Nat) : Int)]) (by kernel_rfl) ((next_len hl2 hh)) fun ac wd hS => ?_
            refine runs_inLoop ?_
            exact ihx _ _ (ph ++ [x])  (next_eq hl2) (hS.sel [0, 1, 2, 3, 4, 5] [8, 12, 14, 69, 70, 71] (by kernel_rfl))
        | cons x rest ihx =>
          refine runs_seq ?_
          refine reg [(0, .dec true)] [1, 8, 12, 14, 54, 55, 56, 57] hG hS (env := [(1, .sl (homes.map Home.av)), (8, .box 1 0), (12, .sl ((factsL l day).map Report.av)), (14, .box 5 0), (54, .sl (c.Laws.map Law.av)), (55, .int .i64 ((c.Laws.length : Nat) : Int)), (56, .int .i64 ((pl.length : Nat) : Int)), (57, .bool true)]) (own := [.box none 25 [.sl (c.Laws.map Law.av), .sl (c.Stills.map Still.av)], .box none 95 [.nsl, .nsl, .nmp, .nmp, .nsl, .nmp, .int .i64 0], .map (pl.map lawKV) (pl.map Law.av), .map [] [], .map [] [], .box none 95 [.sl (c.Laws.map Law.av), .sl (c.Stills.map Still.av), .mp 2, .mp 3, .sl ((factsL l day).map Report.av), .mp 4, .int .i64 day]]) (obs := [decide (((pl.length : Nat) : Int) < ((c.Laws.length : Nat) : Int)) = true]) (by kernel_rfl) ((lt_yes hl1)) fun ac wd hS => ?_
          refine runs_seq ?_
          refine cond_yes hS (c := true) (by kernel_rfl) rfl ?_
          refine runs_skip ?_
          refine runs_seq ?_
          refine runs_block ?_
          refine runs_seq ?_
          refine reg [(0, .av (Law.av x))] [1, 8, 12, 14, 54, 55, 56, 16] hG hS (env := [(1, .sl (homes.map Home.av)), (8, .box 1 0), (12, .sl ((factsL l day).map Report.av)), (14, .box 5 0), (54, .sl (c.Laws.map Law.av)), (55, .int .i64 ((c.Laws.length : Nat) : Int)), (56, .int .i64 ((pl.length : Nat) : Int)), (16, .box 6 0)]) (own := [.box none 25 [.sl (c.Laws.map Law.av), .sl (c.Stills.map Still.av)], .box none 95 [.nsl, .nsl, .nmp, .nmp, .nsl, .nmp, .int .i64 0], .map (pl.map lawKV) (pl.map Law.av), .map [] [], .map [] [], .box none 95 [.sl (c.Laws.map Law.av), .sl (c.Stills.map Still.av), .mp 2, .mp 3, .sl ((factsL l day).map Report.av), .mp 4, .int .i64 day], .box none 66 [.int .i64 x.Land, .int .u8 (U8.i x.Kind), .int .u8 (U8.i x.Base), .int .i64 x.Keep]]) (obs := [0 ≤ (((pl.length : Nat) : Int) : Int) ∧ (c.Laws.map Law.av : List AV)[(((pl.length : Nat) : Int) : Int).toNat]? = some (Law.av x)]) (by kernel_rfl) ((idx_ok hl1)) fun ac wd hS => ?_
          refine reg [(8, .put ((pl ++ [x]).map lawKV) ((pl ++ [x]).map Law.av))] [1, 8, 12, 14, 54, 55, 56] hG hS (env := [(1, .sl (homes.map Home.av)), (8, .box 1 0), (12, .sl ((factsL l day).map Report.av)), (14, .box 5 0), (54, .sl (c.Laws.map Law.av)), (55, .int .i64 ((c.Laws.length : Nat) : Int)), (56, .int .i64 ((pl.length : Nat) : Int))]) (own := [.box none 25 [.sl (c.Laws.map Law.av), .sl (c.Stills.map Still.av)], .box none 95 [.nsl, .nsl, .nmp, .nmp, .nsl, .nmp, .int .i64 0], .map ((pl ++ [x]).map lawKV) ((pl ++ [x]).map Law.av), .map [] [], .map [] [], .box none 95 [.sl (c.Laws.map Law.av), .sl (c.Stills.map Still.av), .mp 2, .mp 3, .sl ((factsL l day).map Report.av), .mp 4, .int .i64 day], .box none 66 [.int .i64 x.Land, .int .u8 (U8.i x.Kind), .int .u8 (U8.i x.Base), .int .i64 x.Keep]]) (obs := [PutOK Tryz.prog 163 (pl.map lawKV) (pl.map Law.av) (.agg [.int .i64 x.Land, .int .u8 (U8.i x.Kind)]) (Law.av x) ((pl ++ [x]).map lawKV) ((pl ++ [x]).map Law.av)]) (by kernel_rfl) ((putG_new ruleFam (vf := Law.av) (nd_pre hC.lawsNd hl1).1 x (nd_pre hC.lawsNd hl1).2)) fun ac wd hS => ?_
          refine runs_inBlock ?_
          refine reg [(0, .is (((pl ++ [x]).length : Nat) : Int))] [1, 8, 12, 14, 54, 55, 56] hG hS (env := [(1, .sl (homes.map Home.av)), (8, .box 1 0), (12, .sl ((factsL l day).map Report.av)), (14, .box 5 0), (54, .sl (c.Laws.map Law.av)), (55, .int .i64 ((c.Laws.length : Nat) : Int)), (56, .int .i64 (((pl ++ [x]).length : Nat) : Int))]) (own := [.box none 25 [.sl (c.Laws.map Law.av), .sl (c.Stills.map Still.av)], .box none 95 [.nsl, .nsl, .nmp, .nmp, .nsl, .nmp, .int .i64 0], .map ((pl ++ [x]).map lawKV) ((pl ++ [x]).map Law.av), .map [] [], .map [] [], .box none 95 [.sl (c.Laws.map Law.av), .sl (c.Stills.map Still.av), .mp 2, .mp 3, .sl ((factsL l day).map Report.av), .mp 4, .int .i64 day], .box none 66 [.int .i64 x.Land, .int .u8 (U8.i x.Kind), .int .u8 (U8.i x.Base), .int .i64 x.Keep]]) (obs := [IntKind.i64.wrap (((pl.length : Nat) : Int) + 1) = (((pl ++ [x]).length : Nat) : Int)]) (by kernel_rfl) ((next_len hl1 hc1)) fun ac wd hS => ?_
          refine runs_inLoop ?_
          exact ihx _ _ (pl ++ [x])  (next_eq hl1) (hS.sel [0, 1, 2, 3, 4, 5] [1, 8, 12, 14, 54, 55, 56] (by kernel_rfl))
      · skip
        refine reg [(2, .av (.tup [.sl [], .int .i64 2]))] [1, 3, 4, 8, 12, 13] hG hS (env := [(1, .sl (homes.map Home.av)), (3, .int .i64 day), (4, .box 0 0), (8, .box 1 0), (12, .sl []), (13, .int .i64 2)]) (own := [.box none 25 [.sl (c.Laws.map Law.av), .sl (c.Stills.map Still.av)], .box none 95 [.nsl, .nsl, .nmp, .nmp, .nsl, .nmp, .int .i64 0]]) (obs := [CallA Tryz.prog GT 34 [.sl (l.map Report.av), .int .i64 day] (.tup [.sl [], .int .i64 2])]) (by kernel_rfl) ((by have h9 := standing_call l day hn; rw [stand_no hfine hd] at h9; exact h9)) fun ac wd hS => ?_
        refine runs_seq ?_
        refine runs_seq ?_
        refine reg [] [1, 3, 4, 8, 12, 13, 43] hG hS (env := [(1, .sl (homes.map Home.av)), (3, .int .i64 day), (4, .box 0 0), (8, .box 1 0), (12, .sl []), (13, .int .i64 2), (43, .bool true)]) (own := [.box none 25 [.sl (c.Laws.map Law.av), .sl (c.Stills.map Still.av)], .box none 95 [.nsl, .nsl, .nmp, .nmp, .nsl, .nmp, .int .i64 0]]) (obs := []) (by kernel_rfl) (trivial) fun ac wd hS => ?_
        refine cond_yes hS (c := true) (by kernel_rfl) rfl ?_
        refine runs_seq ?_
        refine reg [] [8, 9] hG hS (env := [(8, .box 1 0), (9, .int .i64 2)]) (own := [.box none 25 [.sl (c.Laws.map Law.av), .sl (c.Stills.map Still.av)], .box none 95 [.nsl, .nsl, .nmp, .nmp, .nsl, .nmp, .int .i64 0]]) (obs := []) (by kernel_rfl) (trivial) fun ac wd hS => ?_
        rw [show (.tup [openV c homes l day, .int .i64 (openE c homes l day)] : AV) = .tup [.agg [.sl [], .sl [], .nmp, .nmp, .sl [], .nmp, .int .i64 0], .int .i64 2] from by (have h7 : (askedI c homes l != 0) = false := (by simp only [askedI, hb1, hb2, Bool.false_eq_true, if_false]); have h9 : openE c homes l day = 2 := (by simp only [openE, h7, hd, Bool.false_eq_true, if_false, Bool.not_false, if_true]); simp only [openV, h9]; rfl)]
        exact retz Tryz.func41 rfl hB hBd hS (by kernel_rfl) rfl
end Go.Fw

set_option maxRecDepth 20000
namespace Go.Fw
open Go.Proofs

theorem open_cases (c : Code) (homes : List Home) (l : List Report) (day : Int) (hc1 : c.Laws.length ≤ 65536) (hc2 : c.Stills.length ≤ 65536) (hh : homes.length ≤ 65536) (hn : l.length ≤ 65536) :
    ((openE c homes l day != 0) = true ∧ CallA Tryz.prog GT 41 [Code.av c, .sl (homes.map Home.av), .sl (l.map Report.av), .int .i64 day] (.tup [.agg [.sl [], .sl [], .nmp, .nmp, .sl [], .nmp, .int .i64 0], .int .i64 (openE c homes l day)])) ∨
    ∃ facts, facts = factsL l day ∧ (askedI c homes l != 0) = false ∧ within day 0 100000 = true ∧ CodeOK c homes ∧ facts.Pairwise leR ∧ (∀ x ∈ facts, 0 ≤ x.About) ∧ NodupR facts ∧ facts.length ≤ 60 ∧
      CallA Tryz.prog GT 41 [Code.av c, .sl (homes.map Home.av), .sl (l.map Report.av), .int .i64 day] (.tup [.agg [.sl (c.Laws.map Law.av), .sl (c.Stills.map Still.av), .fm (c.Laws.map lawKV) (c.Laws.map Law.av), .fm (homes.map hk) (homes.map hv), .sl (facts.map Report.av), .fm ((closedM facts).map k1) ((closedM facts).map v1), .int .i64 day], .int .i64 0]) := by
  have h := open_call c homes l day hc1 hc2 hh hn
  cases ha : (askedI c homes l != 0)
  · cases hd : within day 0 100000
    · have he : openE c homes l day = 2 := by simp only [openE, ha, hd, Bool.false_eq_true, if_false, Bool.not_false, if_true]
      refine .inl ⟨by rw [he]; rfl, ?_⟩
      have hv : openV c homes l day = .agg [.sl [], .sl [], .nmp, .nmp, .sl [], .nmp, .int .i64 0] := by unfold openV; rw [he]; rfl
      rw [hv] at h; exact h
    · have he : openE c homes l day = 0 := by simp only [openE, ha, hd, Bool.false_eq_true, if_false, Bool.not_true]
      obtain ⟨hf, hc⟩ := asked_fine ha
      refine .inr ⟨_, rfl, rfl, rfl, code_ok hc, facts_sorted l day, fun x hx => (facts_about hf day x hx).1, standing_nodup (hf.good day).nd, hf.flen day, ?_⟩
      have hv : openV c homes l day = burAV c homes (factsL l day) day := by unfold openV; rw [if_pos he]
      rw [hv, he] at h; exact h
  · have he : openE c homes l day = askedI c homes l := by simp only [openE, ha, if_true]
    refine .inl ⟨by rw [he]; exact ha, ?_⟩
    have hv : openV c homes l day = .agg [.sl [], .sl [], .nmp, .nmp, .sl [], .nmp, .int .i64 0] := by
      unfold openV; rw [if_neg]; rw [he]; simpa using ha
    rw [hv] at h; exact h
theorem openE_eq (c : Code) (homes : List Home) (l : List Report) (day : Int) : openE c homes l day = if (askedI c homes l != 0) then askedI c homes l else if !within day 0 100000 then 2 else 0 := rfl
theorem is_id (r : Report) (id : Int) : CallA Tryz.prog GT 43 [Report.av r, .fp [.int .i64 id] 0] (.bool (r.Id == id)) := by
  refine callA_of Tryz.func43 rfl (by simp [Tryz.f43]) rfl fun B ac hB hBd hG hS => ?_
  refine runs_seq ?_
  refine reg [] [1, 2] hG hS (env := [(1, .fp [.int .i64 id] 0), (2, .box 0 0)]) (own := [.box none 73 [.int .i64 r.Id, .int .i64 r.Source, .int .i64 r.Account, .int .i64 r.Made, .int .i64 r.About, .int .u8 (U8.i r.Kind), .int .i64 r.Cents, .int .i64 r.Of]]) (obs := []) (by kernel_rfl) (trivial) fun ac wd hS => ?_
  refine runs_seq ?_
  refine reg [] [3] hG hS (env := [(3, .bool (r.Id == id))]) (own := [.box none 73 [.int .i64 r.Id, .int .i64 r.Source, .int .i64 r.Account, .int .i64 r.Made, .int .i64 r.About, .int .u8 (U8.i r.Kind), .int .i64 r.Cents, .int .i64 r.Of]]) (obs := []) (by kernel_rfl) (trivial) fun ac wd hS => ?_
  rw [show (.bool (r.Id == id) : AV) = .bool (r.Id == id) from by (first | (simp []; done) | (simp []; omega) | (congr 1; simp only []; grind))]
  exact retz Tryz.func43 rfl hB hBd hS (by kernel_rfl) rfl
theorem index_id (l : List Report) (id : Int) (hn : l.length ≤ 65536) : CallA Tryz.prog GT 42 [.sl (l.map Report.av), .fn (.func 43) [] [.fp [.int .i64 id] 0]] (.int .i64 (findI (fun x => (Report.Id x == id)) l 0)) := by
  refine callA_of Tryz.func42 rfl (by simp [Tryz.f42]) rfl fun B ac hB hBd hG hS => ?_
  refine runs_seq ?_
  refine reg [] [0, 1] hG hS (env := [(0, .sl (l.map Report.av)), (1, .fn (.func 43) [] [.fp [.int .i64 id] 0])]) (own := []) (obs := []) (by kernel_rfl) (trivial) fun ac wd hS => ?_
  refine runs_seq ?_
  refine runs_seq ?_
  refine reg [(1, .is ((l.length : Nat) : Int))] [0, 1, 7, 8] hG hS (env := [(0, .sl (l.map Report.av)), (1, .fn (.func 43) [] [.fp [.int .i64 id] 0]), (7, .int .i64 ((l.length : Nat) : Int)), (8, .int .i64 0)]) (own := []) (obs := [((l.map Report.av).length : Int) = ((l.length : Nat) : Int)]) (by kernel_rfl) (len_map) fun ac wd hS => ?_
  refine runs_block ?_
  refine runs_loop ?_
  have hinv : ∃ (pre rest : List Report), l = pre ++ rest ∧ (findI (fun x => (Report.Id x == id)) l 0 = findI (fun x => (Report.Id x == id)) rest ((pre.length : Nat) : Int)) ∧ Sat B ⟨Tryz.f42.ntmps, [(0, .sl (l.map Report.av)), (1, .fn (.func 43) [] [.fp [.int .i64 id] 0]), (7, .int .i64 ((l.length : Nat) : Int)), (8, .int .i64 ((pre.length : Nat) : Int))], []⟩ ac wd := ⟨[], l, rfl, rfl, hS.sel [] [0, 1, 7, 8] (by kernel_rfl)⟩
  clear hS
  obtain ⟨pre, rest, hl, hr, hS⟩ := hinv
  induction rest generalizing pre  ac wd with
  | nil =>
    refine runs_seq ?_
    refine reg [(0, .dec false)] [0, 1, 7, 8, 9] hG hS (env := [(0, .sl (l.map Report.av)), (1, .fn (.func 43) [] [.fp [.int .i64 id] 0]), (7, .int .i64 ((l.length : Nat) : Int)), (8, .int .i64 ((pre.length : Nat) : Int)), (9, .bool false)]) (own := []) (obs := [decide (((pre.length : Nat) : Int) < ((l.length : Nat) : Int)) = false]) (by kernel_rfl) ((lt_no hl)) fun ac wd hS => ?_
    refine runs_seq ?_
    refine cond_no hS (c := false) (by kernel_rfl) rfl ?_
    refine runs_exit (by rfl) ?_
    refine runs_seq ?_
    refine reg [] [4] hG hS (env := [(4, .int .i64 (-1))]) (own := []) (obs := []) (by kernel_rfl) (trivial) fun ac wd hS => ?_
    rw [hr]; rw [show (AV.int .i64 (findI (fun x => (Report.Id x == id)) [] ((pre.length : Nat) : Int))) = .int .i64 (-1) from by simp [findI]]
    exact retz Tryz.func42 rfl hB hBd hS (by kernel_rfl) rfl
  | cons x rest ihx =>
    refine runs_seq ?_
    refine reg [(0, .dec true)] [0, 1, 7, 8, 9] hG hS (env := [(0, .sl (l.map Report.av)), (1, .fn (.func 43) [] [.fp [.int .i64 id] 0]), (7, .int .i64 ((l.length : Nat) : Int)), (8, .int .i64 ((pre.length : Nat) : Int)), (9, .bool true)]) (own := []) (obs := [decide (((pre.length : Nat) : Int) < ((l.length : Nat) : Int)) = true]) (by kernel_rfl) ((lt_yes hl)) fun ac wd hS => ?_
    refine runs_seq ?_
    refine cond_yes hS (c := true) (by kernel_rfl) rfl ?_
    refine runs_skip ?_
    refine runs_seq ?_
    refine runs_block ?_
    refine runs_seq ?_
    refine reg [] [0, 1, 7, 8, 5] hG hS (env := [(0, .sl (l.map Report.av)), (1, .fn (.func 43) [] [.fp [.int .i64 id] 0]), (7, .int .i64 ((l.length : Nat) : Int)), (8, .int .i64 ((pre.length : Nat) : Int)), (5, .int .i64 ((pre.length : Nat) : Int))]) (own := []) (obs := []) (by kernel_rfl) (trivial) fun ac wd hS => ?_
    refine runs_seq ?_
    rcases Bool.eq_false_or_eq_true ((Report.Id x == id)) with hb1 | hb1
    · skip
      refine reg [(3, .av (Report.av x)), (5, .av (.bool (Report.Id x == id)))] [0, 1, 7, 8, 5, 16] hG hS (env := [(0, .sl (l.map Report.av)), (1, .fn (.func 43) [] [.fp [.int .i64 id] 0]), (7, .int .i64 ((l.length : Nat) : Int)), (8, .int .i64 ((pre.length : Nat) : Int)), (5, .int .i64 ((pre.length : Nat) : Int)), (16, .bool (Report.Id x == id))]) (own := []) (obs := [0 ≤ (((pre.length : Nat) : Int) : Int) ∧ (l.map Report.av : List AV)[(((pre.length : Nat) : Int) : Int).toNat]? = some (Report.av x), CallA Tryz.prog GT 43 [Report.av x, .fp [.int .i64 id] 0] (.bool (Report.Id x == id))]) (by kernel_rfl) (⟨(idx_ok hl), (is_id x id)⟩) fun ac wd hS => ?_
      refine cond_yes hS (c := (Report.Id x == id)) (by kernel_rfl) (hb1) ?_
      refine runs_seq ?_
      refine reg [] [4] hG hS (env := [(4, .int .i64 ((pre.length : Nat) : Int))]) (own := []) (obs := []) (by kernel_rfl) (trivial) fun ac wd hS => ?_
      rw [hr]; rw [show (AV.int .i64 (findI (fun x => (Report.Id x == id)) (x :: rest) ((pre.length : Nat) : Int))) = .int .i64 ((pre.length : Nat) : Int) from by simp [findI, hb1]]
      exact retz Tryz.func42 rfl hB hBd hS (by kernel_rfl) rfl
    · skip
      refine reg [(3, .av (Report.av x)), (5, .av (.bool (Report.Id x == id)))] [0, 1, 7, 8, 5, 16] hG hS (env := [(0, .sl (l.map Report.av)), (1, .fn (.func 43) [] [.fp [.int .i64 id] 0]), (7, .int .i64 ((l.length : Nat) : Int)), (8, .int .i64 ((pre.length : Nat) : Int)), (5, .int .i64 ((pre.length : Nat) : Int)), (16, .bool (Report.Id x == id))]) (own := []) (obs := [0 ≤ (((pre.length : Nat) : Int) : Int) ∧ (l.map Report.av : List AV)[(((pre.length : Nat) : Int) : Int).toNat]? = some (Report.av x), CallA Tryz.prog GT 43 [Report.av x, .fp [.int .i64 id] 0] (.bool (Report.Id x == id))]) (by kernel_rfl) (⟨(idx_ok hl), (is_id x id)⟩) fun ac wd hS => ?_
      refine cond_no hS (c := (Report.Id x == id)) (by kernel_rfl) (hb1) ?_
      refine runs_skip ?_
      refine runs_inBlock ?_
      refine reg [(0, .is (((pre ++ [x]).length : Nat) : Int))] [0, 1, 7, 8] hG hS (env := [(0, .sl (l.map Report.av)), (1, .fn (.func 43) [] [.fp [.int .i64 id] 0]), (7, .int .i64 ((l.length : Nat) : Int)), (8, .int .i64 (((pre ++ [x]).length : Nat) : Int))]) (own := []) (obs := [IntKind.i64.wrap (((pre.length : Nat) : Int) + 1) = (((pre ++ [x]).length : Nat) : Int)]) (by kernel_rfl) ((next_len hl hn)) fun ac wd hS => ?_
      refine runs_inLoop ?_
      exact ihx _ _ (pre ++ [x])  (next_eq hl) (by rw [hr]; simp [findI, hb1]) (hS.sel [] [0, 1, 7, 8] (by kernel_rfl))
theorem last_call (c : Code) (homes : List Home) (l : List Report) (id day : Int) (hc1 : c.Laws.length ≤ 65536) (hc2 : c.Stills.length ≤ 65536) (hh : homes.length ≤ 65536) (hn : l.length ≤ 65536) : CallA Tryz.prog GT 15 [Code.av c, .sl (homes.map Home.av), .sl (l.map Report.av), .int .i64 id, .int .i64 day] (.tup [.int .i64 (lastR c homes l id day).1, .int .i64 (lastR c homes l id day).2]) := by
  refine callA_of Tryz.func15 rfl (by simp [Tryz.f15]) rfl fun B ac hB hBd hG hS => ?_
  refine runs_seq ?_
  refine reg [] [1, 2, 4, 5, 8] hG hS (env := [(1, .sl (homes.map Home.av)), (2, .sl (l.map Report.av)), (4, .int .i64 day), (5, .box 0 0), (8, .box 1 0)]) (own := [.box none 25 [.sl (c.Laws.map Law.av), .sl (c.Stills.map Still.av)], .box none 3 [.int .i64 id]]) (obs := []) (by kernel_rfl) (trivial) fun ac wd hS => ?_
  refine runs_seq ?_
  rcases open_cases c homes l day hc1 hc2 hh hn with ⟨hoe, hoc⟩ | ⟨facts, hfe, ha, hd, hC, hs, hp, hfn, hfl, hoc⟩
  · skip
    refine reg [(4, .av (.tup [.agg [.sl [], .sl [], .nmp, .nmp, .sl [], .nmp, .int .i64 0], .int .i64 (openE c homes l day)]))] [8, 12, 13] hG hS (env := [(8, .box 1 0), (12, .box 2 0), (13, .int .i64 (openE c homes l day))]) (own := [.box none 25 [.sl (c.Laws.map Law.av), .sl (c.Stills.map Still.av)], .box none 3 [.int .i64 id], .box none 95 [.sl [], .sl [], .nmp, .nmp, .sl [], .nmp, .int .i64 0]]) (obs := [CallA Tryz.prog GT 41 [Code.av c, .sl (homes.map Home.av), .sl (l.map Report.av), .int .i64 day] (.tup [.agg [.sl [], .sl [], .nmp, .nmp, .sl [], .nmp, .int .i64 0], .int .i64 (openE c homes l day)])]) (by kernel_rfl) (hoc) fun ac wd hS => ?_
    refine runs_seq ?_
    refine runs_seq ?_
    refine reg [(1, .dec true)] [8, 12, 13, 26] hG hS (env := [(8, .box 1 0), (12, .box 2 0), (13, .int .i64 (openE c homes l day)), (26, .bool true)]) (own := [.box none 25 [.sl (c.Laws.map Law.av), .sl (c.Stills.map Still.av)], .box none 3 [.int .i64 id], .box none 95 [.sl [], .sl [], .nmp, .nmp, .sl [], .nmp, .int .i64 0]]) (obs := [((openE c homes l day) != 0) = true]) (by kernel_rfl) (hoe) fun ac wd hS => ?_
    refine cond_yes hS (c := true) (by kernel_rfl) rfl ?_
    refine runs_seq ?_
    refine reg [] [10, 11] hG hS (env := [(10, .int .i64 0), (11, .int .i64 (openE c homes l day))]) (own := [.box none 25 [.sl (c.Laws.map Law.av), .sl (c.Stills.map Still.av)], .box none 3 [.int .i64 id], .box none 95 [.sl [], .sl [], .nmp, .nmp, .sl [], .nmp, .int .i64 0]]) (obs := []) (by kernel_rfl) (trivial) fun ac wd hS => ?_
    rw [show (.tup [.int .i64 (lastR c homes l id day).1, .int .i64 (lastR c homes l id day).2] : AV) = .tup [.int .i64 0, .int .i64 (openE c homes l day)] from by (rw [openE_eq] at hoe; unfold lastR; rw [openE_eq]; revert hoe; cases (askedI c homes l != 0) <;> cases within day 0 100000 <;> simp)]
    exact retz Tryz.func15 rfl hB hBd hS (by kernel_rfl) rfl
  · skip
    refine reg [(4, .av (.tup [.agg [.sl (c.Laws.map Law.av), .sl (c.Stills.map Still.av), .fm (c.Laws.map lawKV) (c.Laws.map Law.av), .fm (homes.map hk) (homes.map hv), .sl (facts.map Report.av), .fm ((closedM facts).map k1) ((closedM facts).map v1), .int .i64 day], .int .i64 0]))] [8, 12, 13] hG hS (env := [(8, .box 1 0), (12, .box 2 0), (13, .int .i64 0)]) (own := [.box none 25 [.sl (c.Laws.map Law.av), .sl (c.Stills.map Still.av)], .box none 3 [.int .i64 id], .box none 95 [.sl (c.Laws.map Law.av), .sl (c.Stills.map Still.av), .fm (c.Laws.map lawKV) (c.Laws.map Law.av), .fm (homes.map hk) (homes.map hv), .sl (facts.map Report.av), .fm ((closedM facts).map k1) ((closedM facts).map v1), .int .i64 day]]) (obs := [CallA Tryz.prog GT 41 [Code.av c, .sl (homes.map Home.av), .sl (l.map Report.av), .int .i64 day] (.tup [.agg [.sl (c.Laws.map Law.av), .sl (c.Stills.map Still.av), .fm (c.Laws.map lawKV) (c.Laws.map Law.av), .fm (homes.map hk) (homes.map hv), .sl (facts.map Report.av), .fm ((closedM facts).map k1) ((closedM facts).map v1), .int .i64 day], .int .i64 0])]) (by kernel_rfl) (hoc) fun ac wd hS => ?_
    refine runs_seq ?_
    refine runs_seq ?_
    refine reg [] [8, 12, 13, 26] hG hS (env := [(8, .box 1 0), (12, .box 2 0), (13, .int .i64 0), (26, .bool false)]) (own := [.box none 25 [.sl (c.Laws.map Law.av), .sl (c.Stills.map Still.av)], .box none 3 [.int .i64 id], .box none 95 [.sl (c.Laws.map Law.av), .sl (c.Stills.map Still.av), .fm (c.Laws.map lawKV) (c.Laws.map Law.av), .fm (homes.map hk) (homes.map hv), .sl (facts.map Report.av), .fm ((closedM facts).map k1) ((closedM facts).map v1), .int .i64 day]]) (obs := []) (by kernel_rfl) (trivial) fun ac wd hS => ?_
    refine cond_no hS (c := false) (by kernel_rfl) rfl ?_
    refine runs_skip ?_
    refine runs_seq ?_
    rcases at_cases facts id with hat | ⟨q, hata, hatb, hatc⟩
    · skip
      refine reg [(3, .lend (.int .i64 (atI facts id)))] [12, 14] hG hS (env := [(12, .box 2 0), (14, .int .i64 (atI facts id))]) (own := [.box none 25 [.sl (c.Laws.map Law.av), .sl (c.Stills.map Still.av)], .box none 3 [.int .i64 id], .box none 95 [.sl (c.Laws.map Law.av), .sl (c.Stills.map Still.av), .fm (c.Laws.map lawKV) (c.Laws.map Law.av), .fm (homes.map hk) (homes.map hv), .sl (facts.map Report.av), .fm ((closedM facts).map k1) ((closedM facts).map v1), .int .i64 day]]) (obs := [CallA Tryz.prog GT 42 [.sl (facts.map Report.av), .fn (.func 43) [] [.fp [.int .i64 id] 0]] (.int .i64 (atI facts id))]) (by kernel_rfl) ((index_id facts id (by omega))) fun ac wd hS => ?_
      refine runs_seq ?_
      refine runs_seq ?_
      refine reg [(1, .dec true)] [12, 14, 33] hG hS (env := [(12, .box 2 0), (14, .int .i64 (atI facts id)), (33, .bool true)]) (own := [.box none 25 [.sl (c.Laws.map Law.av), .sl (c.Stills.map Still.av)], .box none 3 [.int .i64 id], .box none 95 [.sl (c.Laws.map Law.av), .sl (c.Stills.map Still.av), .fm (c.Laws.map lawKV) (c.Laws.map Law.av), .fm (homes.map hk) (homes.map hv), .sl (facts.map Report.av), .fm ((closedM facts).map k1) ((closedM facts).map v1), .int .i64 day]]) (obs := [decide ((atI facts id) < 0) = true]) (by kernel_rfl) ((at_lt0 hat)) fun ac wd hS => ?_
      refine cond_yes hS (c := true) (by kernel_rfl) rfl ?_
      refine runs_seq ?_
      refine reg [] [10, 11] hG hS (env := [(10, .int .i64 0), (11, .int .i64 6)]) (own := [.box none 25 [.sl (c.Laws.map Law.av), .sl (c.Stills.map Still.av)], .box none 3 [.int .i64 id], .box none 95 [.sl (c.Laws.map Law.av), .sl (c.Stills.map Still.av), .fm (c.Laws.map lawKV) (c.Laws.map Law.av), .fm (homes.map hk) (homes.map hv), .sl (facts.map Report.av), .fm ((closedM facts).map k1) ((closedM facts).map v1), .int .i64 day]]) (obs := []) (by kernel_rfl) (trivial) fun ac wd hS => ?_
      rw [show (.tup [.int .i64 (lastR c homes l id day).1, .int .i64 (lastR c homes l id day).2] : AV) = .tup [.int .i64 0, .int .i64 6] from by (have hfe' := hfe.symm; simp only [lastR, ha, hd, Bool.false_eq_true, if_false, Bool.not_true, hfe', hat.2])]
      exact retz Tryz.func15 rfl hB hBd hS (by kernel_rfl) rfl
    · skip
      refine reg [(3, .lend (.int .i64 (atI facts id)))] [12, 14] hG hS (env := [(12, .box 2 0), (14, .int .i64 (atI facts id))]) (own := [.box none 25 [.sl (c.Laws.map Law.av), .sl (c.Stills.map Still.av)], .box none 3 [.int .i64 id], .box none 95 [.sl (c.Laws.map Law.av), .sl (c.Stills.map Still.av), .fm (c.Laws.map lawKV) (c.Laws.map Law.av), .fm (homes.map hk) (homes.map hv), .sl (facts.map Report.av), .fm ((closedM facts).map k1) ((closedM facts).map v1), .int .i64 day]]) (obs := [CallA Tryz.prog GT 42 [.sl (facts.map Report.av), .fn (.func 43) [] [.fp [.int .i64 id] 0]] (.int .i64 (atI facts id))]) (by kernel_rfl) ((index_id facts id (by omega))) fun ac wd hS => ?_
      refine runs_seq ?_
      refine runs_seq ?_
      refine reg [(1, .dec false)] [12, 14, 33] hG hS (env := [(12, .box 2 0), (14, .int .i64 (atI facts id)), (33, .bool false)]) (own := [.box none 25 [.sl (c.Laws.map Law.av), .sl (c.Stills.map Still.av)], .box none 3 [.int .i64 id], .box none 95 [.sl (c.Laws.map Law.av), .sl (c.Stills.map Still.av), .fm (c.Laws.map lawKV) (c.Laws.map Law.av), .fm (homes.map hk) (homes.map hv), .sl (facts.map Report.av), .fm ((closedM facts).map k1) ((closedM facts).map v1), .int .i64 day]]) (obs := [decide ((atI facts id) < 0) = false]) (by kernel_rfl) ((at_lt1 hata)) fun ac wd hS => ?_
      refine cond_no hS (c := false) (by kernel_rfl) rfl ?_
      refine runs_skip ?_
      refine runs_seq ?_
      refine drw [(4, .av (Report.av q)), (6, .av (.tup [.int .i64 ((lastRef c homes facts q).getD 0), .bool ((lastRef c homes facts q).isSome)]))] [15, 16] hG hS (env := [(15, .int .i64 ((lastRef c homes facts q).getD 0)), (16, .bool ((lastRef c homes facts q).isSome))]) (own := [.box none 25 [.sl (c.Laws.map Law.av), .sl (c.Stills.map Still.av)], .box none 3 [.int .i64 id], .box none 95 [.sl (c.Laws.map Law.av), .sl (c.Stills.map Still.av), .fm (c.Laws.map lawKV) (c.Laws.map Law.av), .fm (homes.map hk) (homes.map hv), .sl (facts.map Report.av), .fm ((closedM facts).map k1) ((closedM facts).map v1), .int .i64 day]]) (obs := [0 ≤ (atI facts id : Int) ∧ (facts.map Report.av : List AV)[(atI facts id : Int).toNat]? = some (Report.av q), CallA Tryz.prog GT 44 [.agg [.sl (c.Laws.map Law.av), .sl (c.Stills.map Still.av), .fm (c.Laws.map lawKV) (c.Laws.map Law.av), .fm (homes.map hk) (homes.map hv), .sl (facts.map Report.av), .fm ((closedM facts).map k1) ((closedM facts).map v1), .int .i64 day], Report.av q] (.tup [.int .i64 ((lastRef c homes facts q).getD 0), .bool ((lastRef c homes facts q).isSome)])]) (by kernel_rfl) (by kernel_rfl) (⟨(at_idx hata hatb), (lastB_ok _ _ _ _ _ hC hs hp)⟩) fun ac wd hS => ?_
      refine runs_seq ?_
      refine runs_seq ?_
      rcases Bool.eq_false_or_eq_true ((lastRef c homes facts q).isSome) with hb1 | hb1
      · skip
        refine reg [(1, .dec false)] [15, 45] hG hS (env := [(15, .int .i64 ((lastRef c homes facts q).getD 0)), (45, .bool false)]) (own := [.box none 25 [.sl (c.Laws.map Law.av), .sl (c.Stills.map Still.av)], .box none 3 [.int .i64 id], .box none 95 [.sl (c.Laws.map Law.av), .sl (c.Stills.map Still.av), .fm (c.Laws.map lawKV) (c.Laws.map Law.av), .fm (homes.map hk) (homes.map hv), .sl (facts.map Report.av), .fm ((closedM facts).map k1) ((closedM facts).map v1), .int .i64 day]]) (obs := [(!(lastRef c homes facts q).isSome) = false]) (by kernel_rfl) (by rw [hb1]; rfl) fun ac wd hS => ?_
        refine cond_no hS (c := false) (by kernel_rfl) rfl ?_
        refine runs_skip ?_
        refine runs_seq ?_
        refine reg [] [10, 11] hG hS (env := [(10, .int .i64 ((lastRef c homes facts q).getD 0)), (11, .int .i64 0)]) (own := [.box none 25 [.sl (c.Laws.map Law.av), .sl (c.Stills.map Still.av)], .box none 3 [.int .i64 id], .box none 95 [.sl (c.Laws.map Law.av), .sl (c.Stills.map Still.av), .fm (c.Laws.map lawKV) (c.Laws.map Law.av), .fm (homes.map hk) (homes.map hv), .sl (facts.map Report.av), .fm ((closedM facts).map k1) ((closedM facts).map v1), .int .i64 day]]) (obs := []) (by kernel_rfl) (trivial) fun ac wd hS => ?_
        rw [show (.tup [.int .i64 (lastR c homes l id day).1, .int .i64 (lastR c homes l id day).2] : AV) = .tup [.int .i64 ((lastRef c homes facts q).getD 0), .int .i64 0] from by (have hfe' := hfe.symm; simp only [lastR, ha, hd, Bool.false_eq_true, if_false, Bool.not_true, hfe', hatc, hb1, Bool.false_eq_true, if_true, if_false])]
        exact retz Tryz.func15 rfl hB hBd hS (by kernel_rfl) rfl
      · skip
        refine reg [(1, .dec true)] [15, 45] hG hS (env := [(15, .int .i64 ((lastRef c homes facts q).getD 0)), (45, .bool true)]) (own := [.box none 25 [.sl (c.Laws.map Law.av), .sl (c.Stills.map Still.av)], .box none 3 [.int .i64 id], .box none 95 [.sl (c.Laws.map Law.av), .sl (c.Stills.map Still.av), .fm (c.Laws.map lawKV) (c.Laws.map Law.av), .fm (homes.map hk) (homes.map hv), .sl (facts.map Report.av), .fm ((closedM facts).map k1) ((closedM facts).map v1), .int .i64 day]]) (obs := [(!(lastRef c homes facts q).isSome) = true]) (by kernel_rfl) (by rw [hb1]; rfl) fun ac wd hS => ?_
        refine cond_yes hS (c := true) (by kernel_rfl) rfl ?_
        refine runs_seq ?_
        refine reg [] [10, 11] hG hS (env := [(10, .int .i64 0), (11, .int .i64 6)]) (own := [.box none 25 [.sl (c.Laws.map Law.av), .sl (c.Stills.map Still.av)], .box none 3 [.int .i64 id], .box none 95 [.sl (c.Laws.map Law.av), .sl (c.Stills.map Still.av), .fm (c.Laws.map lawKV) (c.Laws.map Law.av), .fm (homes.map hk) (homes.map hv), .sl (facts.map Report.av), .fm ((closedM facts).map k1) ((closedM facts).map v1), .int .i64 day]]) (obs := []) (by kernel_rfl) (trivial) fun ac wd hS => ?_
        rw [show (.tup [.int .i64 (lastR c homes l id day).1, .int .i64 (lastR c homes l id day).2] : AV) = .tup [.int .i64 0, .int .i64 6] from by (have hfe' := hfe.symm; simp only [lastR, ha, hd, Bool.false_eq_true, if_false, Bool.not_true, hfe', hatc, hb1, Bool.false_eq_true, if_true, if_false])]
        exact retz Tryz.func15 rfl hB hBd hS (by kernel_rfl) rfl
def shownL (c : Code) (homes : List Home) (facts : List Report) (day : Int) : List Report := facts.filter fun r => shownRefB c homes facts r day
theorem shownfn_ok (c : Code) (homes : List Home) (facts : List Report) (day : Int) : CallA Tryz.prog GT 50 [.agg [.sl (c.Laws.map Law.av), .sl (c.Stills.map Still.av), .fm (c.Laws.map lawKV) (c.Laws.map Law.av), .fm (homes.map hk) (homes.map hv), .sl (facts.map Report.av), .fm ((closedM facts).map k1) ((closedM facts).map v1), .int .i64 day]] (.fn (.func 88) [] [.fp [.sl (c.Laws.map Law.av), .sl (c.Stills.map Still.av), .fm (c.Laws.map lawKV) (c.Laws.map Law.av), .fm (homes.map hk) (homes.map hv), .sl (facts.map Report.av), .fm ((closedM facts).map k1) ((closedM facts).map v1), .int .i64 day] 0]) := by
  refine callA_of Tryz.func50 rfl (by simp [Tryz.f50]) rfl fun B ac hB hBd hG hS => ?_
  refine runs_seq ?_
  refine reg [] [1] hG hS (env := [(1, .box 0 0)]) (own := [.box none 95 [.sl (c.Laws.map Law.av), .sl (c.Stills.map Still.av), .fm (c.Laws.map lawKV) (c.Laws.map Law.av), .fm (homes.map hk) (homes.map hv), .sl (facts.map Report.av), .fm ((closedM facts).map k1) ((closedM facts).map v1), .int .i64 day]]) (obs := []) (by kernel_rfl) (trivial) fun ac wd hS => ?_
  refine runs_seq ?_
  refine reg [] [2] hG hS (env := [(2, .fn (.func 88) [] [.box 0 0])]) (own := [.box none 95 [.sl (c.Laws.map Law.av), .sl (c.Stills.map Still.av), .fm (c.Laws.map lawKV) (c.Laws.map Law.av), .fm (homes.map hk) (homes.map hv), .sl (facts.map Report.av), .fm ((closedM facts).map k1) ((closedM facts).map v1), .int .i64 day]]) (obs := []) (by kernel_rfl) (trivial) fun ac wd hS => ?_
  skip
  exact retz Tryz.func50 rfl hB hBd hS (by kernel_rfl) rfl
theorem shown_at {c : Code} {homes : List Home} {facts pre rest : List Report} {day : Int} {x : Report} (hl : facts = pre ++ x :: rest) (hx : shownRefB c homes facts x day = true) :
    ((shownL c homes facts day).map (fun r => [Report.av r, .int .i64 ((lastRef c homes facts r).getD 0)]))[(pre.filter fun r => shownRefB c homes facts r day).length]? = some [Report.av x, .int .i64 ((lastRef c homes facts x).getD 0)] := by
  have e : shownL c homes facts day = (pre.filter fun r => shownRefB c homes facts r day) ++ x :: (rest.filter fun r => shownRefB c homes facts r day) := by
    have h : ∀ p : Report → Bool, p x = true → (pre ++ x :: rest).filter p = pre.filter p ++ x :: rest.filter p := fun p hp => by simp [List.filter_append, List.filter_cons, hp]
    have := h (fun r => shownRefB c homes facts r day) hx
    unfold shownL
    rw [← this, ← hl]
  rw [e]; simp
theorem shown_iter (c : Code) (homes : List Home) (facts : List Report) (day : Int) (hC : CodeOK c homes) (hs : facts.Pairwise leR) (hp : ∀ x ∈ facts, 0 ≤ x.About) (hfl : facts.length ≤ 60) : IterA Tryz.prog GT 88 [] [.fp [.sl (c.Laws.map Law.av), .sl (c.Stills.map Still.av), .fm (c.Laws.map lawKV) (c.Laws.map Law.av), .fm (homes.map hk) (homes.map hv), .sl (facts.map Report.av), .fm ((closedM facts).map k1) ((closedM facts).map v1), .int .i64 day] 0] ((shownL c homes facts day).map (fun r => [Report.av r, .int .i64 ((lastRef c homes facts r).getD 0)])) := by
  refine iterA_of Tryz.func88 rfl (by simp [Tryz.f88]) rfl fun Ly I B ac hst hyr hI hB hBd hG hS => ?_
  refine runs_seq ?_
  refine reg [(2, .is ((facts.length : Nat) : Int))] [0, 1, 8, 9, 10] hG hS (env := [(0, .fn (.yield Ly) [] []), (1, .fp [.sl (c.Laws.map Law.av), .sl (c.Stills.map Still.av), .fm (c.Laws.map lawKV) (c.Laws.map Law.av), .fm (homes.map hk) (homes.map hv), .sl (facts.map Report.av), .fm ((closedM facts).map k1) ((closedM facts).map v1), .int .i64 day] 0), (8, .sl (facts.map Report.av)), (9, .int .i64 ((facts.length : Nat) : Int)), (10, .int .i64 0)]) (own := []) (obs := [((facts.map Report.av).length : Int) = ((facts.length : Nat) : Int)]) (by kernel_rfl) (len_map) fun ac wd hS => ?_
  refine runs_block ?_
  refine runs_loop ?_
  have hinv : ∃ (B2 : Base) (pre rest : List Report), B2.γ = [] ∧ B2.df = [] ∧ GOK GT B2.H ∧ facts = pre ++ rest ∧ I (pre.filter fun r => shownRefB c homes facts r day).length B2.w B2.H ∧ Sat B2 ⟨Tryz.f88.ntmps, [(0, .fn (.yield Ly) [] []), (1, .fp [.sl (c.Laws.map Law.av), .sl (c.Stills.map Still.av), .fm (c.Laws.map lawKV) (c.Laws.map Law.av), .fm (homes.map hk) (homes.map hv), .sl (facts.map Report.av), .fm ((closedM facts).map k1) ((closedM facts).map v1), .int .i64 day] 0), (8, .sl (facts.map Report.av)), (9, .int .i64 ((facts.length : Nat) : Int)), (10, .int .i64 ((pre.length : Nat) : Int))], []⟩ ac wd := ⟨B, [], facts, hB, hBd, hG, rfl, hI, hS.sel [] [0, 1, 8, 9, 10] (by kernel_rfl)⟩
  clear hS hI hB hBd hG
  obtain ⟨B2, pre, rest, hB, hBd, hG, hl, hIp, hS⟩ := hinv
  induction rest generalizing B2 ac wd pre with
  | nil =>
    rw [show ((shownL c homes facts day).map (fun r => [Report.av r, .int .i64 ((lastRef c homes facts r).getD 0)])).length = (pre.filter fun r => shownRefB c homes facts r day).length from by rw [List.length_map]; unfold shownL; have e9 : facts = pre := (by rw [hl, List.append_nil]); rw [← e9]]
    refine runs_seq ?_
    refine reg [(0, .dec false)] [0, 1, 8, 9, 10, 11] hG hS (env := [(0, .fn (.yield Ly) [] []), (1, .fp [.sl (c.Laws.map Law.av), .sl (c.Stills.map Still.av), .fm (c.Laws.map lawKV) (c.Laws.map Law.av), .fm (homes.map hk) (homes.map hv), .sl (facts.map Report.av), .fm ((closedM facts).map k1) ((closedM facts).map v1), .int .i64 day] 0), (8, .sl (facts.map Report.av)), (9, .int .i64 ((facts.length : Nat) : Int)), (10, .int .i64 ((pre.length : Nat) : Int)), (11, .bool false)]) (own := []) (obs := [decide (((pre.length : Nat) : Int) < ((facts.length : Nat) : Int)) = false]) (by kernel_rfl) ((lt_no hl)) fun ac wd hS => ?_
    refine runs_seq ?_
    refine cond_no hS (c := false) (by kernel_rfl) rfl ?_
    refine runs_exit (by rfl) ?_
    exact (iter_ret (k := []) Tryz.func88 rfl hB hBd hS hst hIp rfl).2
  | cons x rest ih =>
    refine runs_seq ?_
    refine reg [(0, .dec true)] [0, 1, 8, 9, 10, 11] hG hS (env := [(0, .fn (.yield Ly) [] []), (1, .fp [.sl (c.Laws.map Law.av), .sl (c.Stills.map Still.av), .fm (c.Laws.map lawKV) (c.Laws.map Law.av), .fm (homes.map hk) (homes.map hv), .sl (facts.map Report.av), .fm ((closedM facts).map k1) ((closedM facts).map v1), .int .i64 day] 0), (8, .sl (facts.map Report.av)), (9, .int .i64 ((facts.length : Nat) : Int)), (10, .int .i64 ((pre.length : Nat) : Int)), (11, .bool true)]) (own := []) (obs := [decide (((pre.length : Nat) : Int) < ((facts.length : Nat) : Int)) = true]) (by kernel_rfl) ((lt_yes hl)) fun ac wd hS => ?_
    refine runs_seq ?_
    refine cond_yes hS (c := true) (by kernel_rfl) rfl ?_
    refine runs_skip ?_
    refine runs_seq ?_
    refine runs_block ?_
    refine runs_seq ?_
    refine reg [(0, .av (Report.av x))] [0, 1, 8, 9, 10, 4] hG hS (env := [(0, .fn (.yield Ly) [] []), (1, .fp [.sl (c.Laws.map Law.av), .sl (c.Stills.map Still.av), .fm (c.Laws.map lawKV) (c.Laws.map Law.av), .fm (homes.map hk) (homes.map hv), .sl (facts.map Report.av), .fm ((closedM facts).map k1) ((closedM facts).map v1), .int .i64 day] 0), (8, .sl (facts.map Report.av)), (9, .int .i64 ((facts.length : Nat) : Int)), (10, .int .i64 ((pre.length : Nat) : Int)), (4, .box 0 0)]) (own := [.box none 73 [.int .i64 x.Id, .int .i64 x.Source, .int .i64 x.Account, .int .i64 x.Made, .int .i64 x.About, .int .u8 (U8.i x.Kind), .int .i64 x.Cents, .int .i64 x.Of]]) (obs := [0 ≤ (((pre.length : Nat) : Int) : Int) ∧ (facts.map Report.av : List AV)[(((pre.length : Nat) : Int) : Int).toNat]? = some (Report.av x)]) (by kernel_rfl) ((idx_ok hl)) fun ac wd hS => ?_
    refine runs_seq ?_
    refine reg [(2, .av (.tup [.int .i64 ((lastRef c homes facts x).getD 0), .bool ((lastRef c homes facts x).isSome)]))] [0, 1, 8, 9, 10, 4, 5, 6] hG hS (env := [(0, .fn (.yield Ly) [] []), (1, .fp [.sl (c.Laws.map Law.av), .sl (c.Stills.map Still.av), .fm (c.Laws.map lawKV) (c.Laws.map Law.av), .fm (homes.map hk) (homes.map hv), .sl (facts.map Report.av), .fm ((closedM facts).map k1) ((closedM facts).map v1), .int .i64 day] 0), (8, .sl (facts.map Report.av)), (9, .int .i64 ((facts.length : Nat) : Int)), (10, .int .i64 ((pre.length : Nat) : Int)), (4, .box 0 0), (5, .int .i64 ((lastRef c homes facts x).getD 0)), (6, .bool ((lastRef c homes facts x).isSome))]) (own := [.box none 73 [.int .i64 x.Id, .int .i64 x.Source, .int .i64 x.Account, .int .i64 x.Made, .int .i64 x.About, .int .u8 (U8.i x.Kind), .int .i64 x.Cents, .int .i64 x.Of]]) (obs := [CallA Tryz.prog GT 44 [.agg [.sl (c.Laws.map Law.av), .sl (c.Stills.map Still.av), .fm (c.Laws.map lawKV) (c.Laws.map Law.av), .fm (homes.map hk) (homes.map hv), .sl (facts.map Report.av), .fm ((closedM facts).map k1) ((closedM facts).map v1), .int .i64 day], Report.av x] (.tup [.int .i64 ((lastRef c homes facts x).getD 0), .bool ((lastRef c homes facts x).isSome)])]) (by kernel_rfl) ((lastB_ok _ _ _ _ _ hC hs hp)) fun ac wd hS => ?_
    refine runs_seq ?_
    rcases Bool.eq_false_or_eq_true ((lastRef c homes facts x).isSome) with hb1 | hb1
    · skip
      rcases Bool.eq_false_or_eq_true (decide (x.About ≤ day)) with hb2 | hb2
      · skip
        rcases Bool.eq_false_or_eq_true (decide (day ≤ ((lastRef c homes facts x).getD 0))) with hb3 | hb3
        · skip
          refine regA [0, 1, 2, 3, 4, 5, 6, 7, 8, 9, 10, 11, 12, 13, 14, 15, 16, 17] [18, 19, 20] [(1, .dec true), (8, .dec true), (14, .dec true)] [0, 1, 8, 9, 10, 34, 35, 36, 37] hG hS rfl (env := [(0, .fn (.yield Ly) [] []), (1, .fp [.sl (c.Laws.map Law.av), .sl (c.Stills.map Still.av), .fm (c.Laws.map lawKV) (c.Laws.map Law.av), .fm (homes.map hk) (homes.map hv), .sl (facts.map Report.av), .fm ((closedM facts).map k1) ((closedM facts).map v1), .int .i64 day] 0), (8, .sl (facts.map Report.av)), (9, .int .i64 ((facts.length : Nat) : Int)), (10, .int .i64 ((pre.length : Nat) : Int)), (34, .bool true), (35, .fn (.yield Ly) [] []), (36, Report.av x), (37, .int .i64 ((lastRef c homes facts x).getD 0))]) (own := [.box none 73 [.int .i64 x.Id, .int .i64 x.Source, .int .i64 x.Account, .int .i64 x.Made, .int .i64 x.About, .int .u8 (U8.i x.Kind), .int .i64 x.Cents, .int .i64 x.Of]]) (obs := [(lastRef c homes facts x).isSome = true, decide (x.About ≤ day) = true, decide (day ≤ ((lastRef c homes facts x).getD 0)) = true]) (by kernel_rfl) (by rfl) (⟨hb1, hb2, hb3⟩) fun ac wd hS => ?_
          have hsx : shownRefB c homes facts x day = true := by simp only [shownRefB, hb1, hb2, hb3, Bool.and_true, Bool.true_and, Bool.and_false, Bool.false_and, Bool.or_true, Bool.true_or, Bool.or_false, Bool.false_or, Bool.not_true, Bool.not_false]
          refine op_yield (j := (pre.filter fun r => shownRefB c homes facts r day).length) (e := [Report.av x, .int .i64 ((lastRef c homes facts x).getD 0)]) hS hB hBd hG hIp hst hyr (shown_at hl hsx) rfl rfl rfl (by rfl) ⟨_, rfl, rfl⟩ rfl rfl rfl rfl ?_
          clear hS hIp hB hBd hG
          intro B ac hB hBd hG hIp hS
          refine regT [] [0, 1, 8, 9, 10, 40] hG hS (env := [(0, .fn (.yield Ly) [] []), (1, .fp [.sl (c.Laws.map Law.av), .sl (c.Stills.map Still.av), .fm (c.Laws.map lawKV) (c.Laws.map Law.av), .fm (homes.map hk) (homes.map hv), .sl (facts.map Report.av), .fm ((closedM facts).map k1) ((closedM facts).map v1), .int .i64 day] 0), (8, .sl (facts.map Report.av)), (9, .int .i64 ((facts.length : Nat) : Int)), (10, .int .i64 ((pre.length : Nat) : Int)), (40, .bool false)]) (own := []) (obs := []) (by kernel_rfl) (by rfl) trivial fun ac wd hS => ?_
          refine cond_no hS (c := false) (by kernel_rfl) rfl ?_
          refine runs_skip ?_
          refine runs_inBlock ?_
          refine reg [(0, .is (((pre ++ [x]).length : Nat) : Int))] [0, 1, 8, 9, 10] hG hS (env := [(0, .fn (.yield Ly) [] []), (1, .fp [.sl (c.Laws.map Law.av), .sl (c.Stills.map Still.av), .fm (c.Laws.map lawKV) (c.Laws.map Law.av), .fm (homes.map hk) (homes.map hv), .sl (facts.map Report.av), .fm ((closedM facts).map k1) ((closedM facts).map v1), .int .i64 day] 0), (8, .sl (facts.map Report.av)), (9, .int .i64 ((facts.length : Nat) : Int)), (10, .int .i64 (((pre ++ [x]).length : Nat) : Int))]) (own := []) (obs := [IntKind.i64.wrap (((pre.length : Nat) : Int) + 1) = (((pre ++ [x]).length : Nat) : Int)]) (by kernel_rfl) ((next_len hl (by omega))) fun ac wd hS => ?_
          refine runs_inLoop ?_
          have hsx : shownRefB c homes facts x day = true := by simp only [shownRefB, hb1, hb2, hb3, Bool.and_true, Bool.true_and, Bool.and_false, Bool.false_and, Bool.or_true, Bool.true_or, Bool.or_false, Bool.false_or, Bool.not_true, Bool.not_false]
          exact ih (B2 := _) (ac := _) (wd := _) (pre := pre ++ [x]) hB hBd hG (next_eq hl) (by rw [List.filter_append, List.filter_cons, hsx]; simpa using hIp) (hS.sel [] [0, 1, 8, 9, 10] (by kernel_rfl))
        · skip
          refine reg [(1, .dec true), (8, .dec true), (14, .dec false)] [0, 1, 8, 9, 10, 40] hG hS (env := [(0, .fn (.yield Ly) [] []), (1, .fp [.sl (c.Laws.map Law.av), .sl (c.Stills.map Still.av), .fm (c.Laws.map lawKV) (c.Laws.map Law.av), .fm (homes.map hk) (homes.map hv), .sl (facts.map Report.av), .fm ((closedM facts).map k1) ((closedM facts).map v1), .int .i64 day] 0), (8, .sl (facts.map Report.av)), (9, .int .i64 ((facts.length : Nat) : Int)), (10, .int .i64 ((pre.length : Nat) : Int)), (40, .bool false)]) (own := [.box none 73 [.int .i64 x.Id, .int .i64 x.Source, .int .i64 x.Account, .int .i64 x.Made, .int .i64 x.About, .int .u8 (U8.i x.Kind), .int .i64 x.Cents, .int .i64 x.Of]]) (obs := [(lastRef c homes facts x).isSome = true, decide (x.About ≤ day) = true, decide (day ≤ ((lastRef c homes facts x).getD 0)) = false]) (by kernel_rfl) (⟨hb1, hb2, hb3⟩) fun ac wd hS => ?_
          refine cond_no hS (c := false) (by kernel_rfl) rfl ?_
          refine runs_skip ?_
          refine runs_inBlock ?_
          refine reg [(0, .is (((pre ++ [x]).length : Nat) : Int))] [0, 1, 8, 9, 10] hG hS (env := [(0, .fn (.yield Ly) [] []), (1, .fp [.sl (c.Laws.map Law.av), .sl (c.Stills.map Still.av), .fm (c.Laws.map lawKV) (c.Laws.map Law.av), .fm (homes.map hk) (homes.map hv), .sl (facts.map Report.av), .fm ((closedM facts).map k1) ((closedM facts).map v1), .int .i64 day] 0), (8, .sl (facts.map Report.av)), (9, .int .i64 ((facts.length : Nat) : Int)), (10, .int .i64 (((pre ++ [x]).length : Nat) : Int))]) (own := [.box none 73 [.int .i64 x.Id, .int .i64 x.Source, .int .i64 x.Account, .int .i64 x.Made, .int .i64 x.About, .int .u8 (U8.i x.Kind), .int .i64 x.Cents, .int .i64 x.Of]]) (obs := [IntKind.i64.wrap (((pre.length : Nat) : Int) + 1) = (((pre ++ [x]).length : Nat) : Int)]) (by kernel_rfl) ((next_len hl (by omega))) fun ac wd hS => ?_
          refine runs_inLoop ?_
          have hsx : shownRefB c homes facts x day = false := by simp only [shownRefB, hb1, hb2, hb3, Bool.and_true, Bool.true_and, Bool.and_false, Bool.false_and, Bool.or_true, Bool.true_or, Bool.or_false, Bool.false_or, Bool.not_true, Bool.not_false]
          exact ih (B2 := _) (ac := _) (wd := _) (pre := pre ++ [x]) hB hBd hG (next_eq hl) (by rw [List.filter_append, List.filter_cons, hsx]; simpa using hIp) (hS.sel [] [0, 1, 8, 9, 10] (by kernel_rfl))
      · skip
        refine reg [(1, .dec true), (8, .dec false)] [0, 1, 8, 9, 10, 40] hG hS (env := [(0, .fn (.yield Ly) [] []), (1, .fp [.sl (c.Laws.map Law.av), .sl (c.Stills.map Still.av), .fm (c.Laws.map lawKV) (c.Laws.map Law.av), .fm (homes.map hk) (homes.map hv), .sl (facts.map Report.av), .fm ((closedM facts).map k1) ((closedM facts).map v1), .int .i64 day] 0), (8, .sl (facts.map Report.av)), (9, .int .i64 ((facts.length : Nat) : Int)), (10, .int .i64 ((pre.length : Nat) : Int)), (40, .bool false)]) (own := [.box none 73 [.int .i64 x.Id, .int .i64 x.Source, .int .i64 x.Account, .int .i64 x.Made, .int .i64 x.About, .int .u8 (U8.i x.Kind), .int .i64 x.Cents, .int .i64 x.Of]]) (obs := [(lastRef c homes facts x).isSome = true, decide (x.About ≤ day) = false]) (by kernel_rfl) (⟨hb1, hb2⟩) fun ac wd hS => ?_
        refine cond_no hS (c := false) (by kernel_rfl) rfl ?_
        refine runs_skip ?_
        refine runs_inBlock ?_
        refine reg [(0, .is (((pre ++ [x]).length : Nat) : Int))] [0, 1, 8, 9, 10] hG hS (env := [(0, .fn (.yield Ly) [] []), (1, .fp [.sl (c.Laws.map Law.av), .sl (c.Stills.map Still.av), .fm (c.Laws.map lawKV) (c.Laws.map Law.av), .fm (homes.map hk) (homes.map hv), .sl (facts.map Report.av), .fm ((closedM facts).map k1) ((closedM facts).map v1), .int .i64 day] 0), (8, .sl (facts.map Report.av)), (9, .int .i64 ((facts.length : Nat) : Int)), (10, .int .i64 (((pre ++ [x]).length : Nat) : Int))]) (own := [.box none 73 [.int .i64 x.Id, .int .i64 x.Source, .int .i64 x.Account, .int .i64 x.Made, .int .i64 x.About, .int .u8 (U8.i x.Kind), .int .i64 x.Cents, .int .i64 x.Of]]) (obs := [IntKind.i64.wrap (((pre.length : Nat) : Int) + 1) = (((pre ++ [x]).length : Nat) : Int)]) (by kernel_rfl) ((next_len hl (by omega))) fun ac wd hS => ?_
        refine runs_inLoop ?_
        have hsx : shownRefB c homes facts x day = false := by simp only [shownRefB, hb1, hb2, Bool.and_true, Bool.true_and, Bool.and_false, Bool.false_and, Bool.or_true, Bool.true_or, Bool.or_false, Bool.false_or, Bool.not_true, Bool.not_false]
        exact ih (B2 := _) (ac := _) (wd := _) (pre := pre ++ [x]) hB hBd hG (next_eq hl) (by rw [List.filter_append, List.filter_cons, hsx]; simpa using hIp) (hS.sel [] [0, 1, 8, 9, 10] (by kernel_rfl))
    · skip
      refine reg [(1, .dec false)] [0, 1, 8, 9, 10, 40] hG hS (env := [(0, .fn (.yield Ly) [] []), (1, .fp [.sl (c.Laws.map Law.av), .sl (c.Stills.map Still.av), .fm (c.Laws.map lawKV) (c.Laws.map Law.av), .fm (homes.map hk) (homes.map hv), .sl (facts.map Report.av), .fm ((closedM facts).map k1) ((closedM facts).map v1), .int .i64 day] 0), (8, .sl (facts.map Report.av)), (9, .int .i64 ((facts.length : Nat) : Int)), (10, .int .i64 ((pre.length : Nat) : Int)), (40, .bool false)]) (own := [.box none 73 [.int .i64 x.Id, .int .i64 x.Source, .int .i64 x.Account, .int .i64 x.Made, .int .i64 x.About, .int .u8 (U8.i x.Kind), .int .i64 x.Cents, .int .i64 x.Of]]) (obs := [(lastRef c homes facts x).isSome = false]) (by kernel_rfl) (hb1) fun ac wd hS => ?_
      refine cond_no hS (c := false) (by kernel_rfl) rfl ?_
      refine runs_skip ?_
      refine runs_inBlock ?_
      refine reg [(0, .is (((pre ++ [x]).length : Nat) : Int))] [0, 1, 8, 9, 10] hG hS (env := [(0, .fn (.yield Ly) [] []), (1, .fp [.sl (c.Laws.map Law.av), .sl (c.Stills.map Still.av), .fm (c.Laws.map lawKV) (c.Laws.map Law.av), .fm (homes.map hk) (homes.map hv), .sl (facts.map Report.av), .fm ((closedM facts).map k1) ((closedM facts).map v1), .int .i64 day] 0), (8, .sl (facts.map Report.av)), (9, .int .i64 ((facts.length : Nat) : Int)), (10, .int .i64 (((pre ++ [x]).length : Nat) : Int))]) (own := [.box none 73 [.int .i64 x.Id, .int .i64 x.Source, .int .i64 x.Account, .int .i64 x.Made, .int .i64 x.About, .int .u8 (U8.i x.Kind), .int .i64 x.Cents, .int .i64 x.Of]]) (obs := [IntKind.i64.wrap (((pre.length : Nat) : Int) + 1) = (((pre ++ [x]).length : Nat) : Int)]) (by kernel_rfl) ((next_len hl (by omega))) fun ac wd hS => ?_
      refine runs_inLoop ?_
      have hsx : shownRefB c homes facts x day = false := by simp only [shownRefB, hb1, Bool.and_true, Bool.true_and, Bool.and_false, Bool.false_and, Bool.or_true, Bool.true_or, Bool.or_false, Bool.false_or, Bool.not_true, Bool.not_false]
      exact ih (B2 := _) (ac := _) (wd := _) (pre := pre ++ [x]) hB hBd hG (next_eq hl) (by rw [List.filter_append, List.filter_cons, hsx]; simpa using hIp) (hS.sel [] [0, 1, 8, 9, 10] (by kernel_rfl))
end Go.Fw

set_option maxRecDepth 20000
namespace Go.Fw
open Go.Proofs

def tv (_ : Report) : AV := .bool true
def dueL (facts : List Report) (day : Int) : List Report := facts.filter fun r => decide (r.About ≤ day)
def dueJ (c : Code) (homes : List Home) (facts : List Report) (day : Int) (j : Nat) : List Report := (dueL facts day).filter fun r => !(((shownL c homes facts day).take j).any fun x => x.Id == r.Id)
theorem due_step {c : Code} {homes : List Home} {facts : List Report} {day : Int} {j : Nat} {x : Report} (hx : (shownL c homes facts day)[j]? = some x) : dueJ c homes facts day (j + 1) = delK Report.Id (dueJ c homes facts day j) x.Id := by
  unfold dueJ delK
  rw [take_next hx, List.filter_filter]
  refine List.filter_congr fun r _ => ?_
  rw [List.any_append, Bool.not_or, Bool.and_comm]
  congr 1
  simp only [List.any_cons, List.any_nil, Bool.or_false]
  rw [Bool.eq_iff_iff]; simp; constructor <;> intro h he <;> exact h he.symm
theorem due_nodup {facts : List Report} (h : NodupR facts) (p : Report → Bool) : NodupR (facts.filter p) := (List.filter_sublist.map Report.Id).nodup h
theorem dueJ_nodup {c : Code} {homes : List Home} {facts : List Report} {day : Int} {j : Nat} (h : NodupR facts) : NodupR (dueJ c homes facts day j) := due_nodup (due_nodup h _) _
def goneC (c : Code) (homes : List Home) (facts : List Report) (day : Int) : List Report := facts.filter fun r => decide (r.About ≤ day) && !shownRefB c homes facts r day
theorem due_end {c : Code} {homes : List Home} {facts : List Report} {day : Int} (h : NodupR facts) : dueJ c homes facts day (shownL c homes facts day).length = goneC c homes facts day := by
  unfold dueJ goneC dueL
  rw [List.take_length, List.filter_filter]
  refine List.filter_congr fun r hr => ?_
  rw [Bool.and_comm]
  congr 2
  rw [Bool.eq_iff_iff, List.any_eq_true]
  constructor
  · rintro ⟨x, hx, he⟩
    obtain ⟨h1, h2⟩ := List.mem_filter.1 hx
    have := h.eq h1 hr (by simpa using he)
    rw [← this]; exact h2
  · intro hs
    exact ⟨r, List.mem_filter.2 ⟨hr, hs⟩, by simp⟩
theorem gone_fold (c : Code) (homes : List Home) (facts : List Report) (day : Int) : ∀ (l : List Report) (acc : List Int), l.foldl (goneStep c homes facts day) acc = ((l.filter fun r => decide (r.About ≤ day) && !shownRefB c homes facts r day).map Report.Id).foldl insL acc
  | [], acc => rfl
  | x :: l, acc => by
    simp only [List.foldl_cons, List.filter_cons]
    rw [gone_fold c homes facts day l]
    unfold goneStep
    cases decide (x.About ≤ day) && !shownRefB c homes facts x day <;> rfl
theorem gone_sort (c : Code) (homes : List Home) (facts : List Report) (day : Int) : goneF c homes facts day = sortL ((goneC c homes facts day).map Report.Id) := gone_fold c homes facts day facts []
theorem due_fresh {facts pre rest : List Report} {x : Report} (h : NodupR facts) (hl : facts = pre ++ x :: rest) (p : Report → Bool) : findK Report.Id (pre.filter p) x.Id = none := by
  have := (nd_preK (kf := Report.Id) h hl).2
  refine List.find?_eq_none.2 fun y hy => ?_
  exact List.find?_eq_none.1 this y (List.mem_filter.1 hy).1
theorem gone_call (c : Code) (homes : List Home) (l : List Report) (day : Int) (hc1 : c.Laws.length ≤ 65536) (hc2 : c.Stills.length ≤ 65536) (hh : homes.length ≤ 65536) (hn : l.length ≤ 65536) : CallA Tryz.prog GT 17 [Code.av c, .sl (homes.map Home.av), .sl (l.map Report.av), .int .i64 day] (.tup [.sl ((goneR c homes l day).1.map ia), .int .i64 (goneR c homes l day).2]) := by
  refine callA_of Tryz.func17 rfl (by simp [Tryz.f17]) rfl fun B ac hB hBd hG hS => ?_
  refine runs_seq ?_
  refine reg [] [1, 2, 3, 4] hG hS (env := [(1, .sl (homes.map Home.av)), (2, .sl (l.map Report.av)), (3, .int .i64 day), (4, .box 0 0)]) (own := [.box none 25 [.sl (c.Laws.map Law.av), .sl (c.Stills.map Still.av)]]) (obs := []) (by kernel_rfl) (trivial) fun ac wd hS => ?_
  refine runs_seq ?_
  rcases open_cases c homes l day hc1 hc2 hh hn with ⟨hoe, hoc⟩ | ⟨facts, hfe, ha, hd, hC, hs, hp, hfn, hfl, hoc⟩
  · skip
    refine reg [(4, .av (.tup [.agg [.sl [], .sl [], .nmp, .nmp, .sl [], .nmp, .int .i64 0], .int .i64 (openE c homes l day)]))] [3, 10, 11] hG hS (env := [(3, .int .i64 day), (10, .box 1 0), (11, .int .i64 (openE c homes l day))]) (own := [.box none 25 [.sl (c.Laws.map Law.av), .sl (c.Stills.map Still.av)], .box none 95 [.sl [], .sl [], .nmp, .nmp, .sl [], .nmp, .int .i64 0]]) (obs := [CallA Tryz.prog GT 41 [Code.av c, .sl (homes.map Home.av), .sl (l.map Report.av), .int .i64 day] (.tup [.agg [.sl [], .sl [], .nmp, .nmp, .sl [], .nmp, .int .i64 0], .int .i64 (openE c homes l day)])]) (by kernel_rfl) (hoc) fun ac wd hS => ?_
    refine runs_seq ?_
    refine runs_seq ?_
    refine reg [(1, .dec true)] [3, 10, 11, 27] hG hS (env := [(3, .int .i64 day), (10, .box 1 0), (11, .int .i64 (openE c homes l day)), (27, .bool true)]) (own := [.box none 25 [.sl (c.Laws.map Law.av), .sl (c.Stills.map Still.av)], .box none 95 [.sl [], .sl [], .nmp, .nmp, .sl [], .nmp, .int .i64 0]]) (obs := [((openE c homes l day) != 0) = true]) (by kernel_rfl) (hoe) fun ac wd hS => ?_
    refine cond_yes hS (c := true) (by kernel_rfl) rfl ?_
    refine runs_seq ?_
    refine reg [] [8, 9] hG hS (env := [(8, .nsl), (9, .int .i64 (openE c homes l day))]) (own := [.box none 25 [.sl (c.Laws.map Law.av), .sl (c.Stills.map Still.av)], .box none 95 [.sl [], .sl [], .nmp, .nmp, .sl [], .nmp, .int .i64 0]]) (obs := []) (by kernel_rfl) (trivial) fun ac wd hS => ?_
    rw [show (.tup [.sl ((goneR c homes l day).1.map ia), .int .i64 (goneR c homes l day).2] : AV) = .tup [.sl [], .int .i64 (openE c homes l day)] from by (rw [openE_eq] at hoe; unfold goneR; rw [openE_eq]; revert hoe; cases (askedI c homes l != 0) <;> cases within day 0 100000 <;> simp)]
    exact retz Tryz.func17 rfl hB hBd hS (by kernel_rfl) rfl
  · skip
    refine reg [(4, .av (.tup [.agg [.sl (c.Laws.map Law.av), .sl (c.Stills.map Still.av), .fm (c.Laws.map lawKV) (c.Laws.map Law.av), .fm (homes.map hk) (homes.map hv), .sl (facts.map Report.av), .fm ((closedM facts).map k1) ((closedM facts).map v1), .int .i64 day], .int .i64 0]))] [3, 10, 11] hG hS (env := [(3, .int .i64 day), (10, .box 1 0), (11, .int .i64 0)]) (own := [.box none 25 [.sl (c.Laws.map Law.av), .sl (c.Stills.map Still.av)], .box none 95 [.sl (c.Laws.map Law.av), .sl (c.Stills.map Still.av), .fm (c.Laws.map lawKV) (c.Laws.map Law.av), .fm (homes.map hk) (homes.map hv), .sl (facts.map Report.av), .fm ((closedM facts).map k1) ((closedM facts).map v1), .int .i64 day]]) (obs := [CallA Tryz.prog GT 41 [Code.av c, .sl (homes.map Home.av), .sl (l.map Report.av), .int .i64 day] (.tup [.agg [.sl (c.Laws.map Law.av), .sl (c.Stills.map Still.av), .fm (c.Laws.map lawKV) (c.Laws.map Law.av), .fm (homes.map hk) (homes.map hv), .sl (facts.map Report.av), .fm ((closedM facts).map k1) ((closedM facts).map v1), .int .i64 day], .int .i64 0])]) (by kernel_rfl) (hoc) fun ac wd hS => ?_
    refine runs_seq ?_
    refine runs_seq ?_
    refine reg [] [3, 10, 11, 27] hG hS (env := [(3, .int .i64 day), (10, .box 1 0), (11, .int .i64 0), (27, .bool false)]) (own := [.box none 25 [.sl (c.Laws.map Law.av), .sl (c.Stills.map Still.av)], .box none 95 [.sl (c.Laws.map Law.av), .sl (c.Stills.map Still.av), .fm (c.Laws.map lawKV) (c.Laws.map Law.av), .fm (homes.map hk) (homes.map hv), .sl (facts.map Report.av), .fm ((closedM facts).map k1) ((closedM facts).map v1), .int .i64 day]]) (obs := []) (by kernel_rfl) (trivial) fun ac wd hS => ?_
    refine cond_no hS (c := false) (by kernel_rfl) rfl ?_
    refine runs_skip ?_
    refine runs_seq ?_
    refine reg [] [3, 10, 12] hG hS (env := [(3, .int .i64 day), (10, .box 1 0), (12, .box 3 0)]) (own := [.box none 25 [.sl (c.Laws.map Law.av), .sl (c.Stills.map Still.av)], .box none 95 [.sl (c.Laws.map Law.av), .sl (c.Stills.map Still.av), .fm (c.Laws.map lawKV) (c.Laws.map Law.av), .fm (homes.map hk) (homes.map hv), .sl (facts.map Report.av), .fm ((closedM facts).map k1) ((closedM facts).map v1), .int .i64 day], .map [] [], .box none 108 [.mp 2]]) (obs := []) (by kernel_rfl) (trivial) fun ac wd hS => ?_
    refine runs_seq ?_
    refine runs_seq ?_
    refine reg [(2, .is ((facts.length : Nat) : Int))] [3, 10, 12, 31, 32, 33] hG hS (env := [(3, .int .i64 day), (10, .box 1 0), (12, .box 3 0), (31, .sl (facts.map Report.av)), (32, .int .i64 ((facts.length : Nat) : Int)), (33, .int .i64 0)]) (own := [.box none 25 [.sl (c.Laws.map Law.av), .sl (c.Stills.map Still.av)], .box none 95 [.sl (c.Laws.map Law.av), .sl (c.Stills.map Still.av), .fm (c.Laws.map lawKV) (c.Laws.map Law.av), .fm (homes.map hk) (homes.map hv), .sl (facts.map Report.av), .fm ((closedM facts).map k1) ((closedM facts).map v1), .int .i64 day], .map [] [], .box none 108 [.mp 2]]) (obs := [((facts.map Report.av).length : Int) = ((facts.length : Nat) : Int)]) (by kernel_rfl) (len_map) fun ac wd hS => ?_
    refine runs_block ?_
    refine runs_loop ?_
    have hinv : ∃ (pre rest : List Report) (D : List Report), facts = pre ++ rest ∧ (D = pre.filter (fun r => decide (r.About ≤ day))) ∧ Sat B ⟨Tryz.f17.ntmps, [(3, .int .i64 day), (10, .box 1 0), (12, .box 3 0), (31, .sl (facts.map Report.av)), (32, .int .i64 ((facts.length : Nat) : Int)), (33, .int .i64 ((pre.length : Nat) : Int))], [.box none 25 [.sl (c.Laws.map Law.av), .sl (c.Stills.map Still.av)], .box none 95 [.sl (c.Laws.map Law.av), .sl (c.Stills.map Still.av), .fm (c.Laws.map lawKV) (c.Laws.map Law.av), .fm (homes.map hk) (homes.map hv), .sl (facts.map Report.av), .fm ((closedM facts).map k1) ((closedM facts).map v1), .int .i64 day], .map (D.map idk) (D.map tv), .box none 108 [.mp 2]]⟩ ac wd := ⟨[], facts, [], rfl, rfl, hS.sel [0, 1, 2, 3] [3, 10, 12, 31, 32, 33] (by kernel_rfl)⟩
    clear hS
    obtain ⟨pre, rest, D, hl, hD, hS⟩ := hinv
    induction rest generalizing pre D ac wd with
    | nil =>
      have hDe : dueJ c homes facts day 0 = D := by rw [hD]; unfold dueJ dueL; rw [hl, List.append_nil]; simp
      refine runs_seq ?_
      refine reg [(0, .dec false)] [3, 10, 12, 31, 32, 33, 34] hG hS (env := [(3, .int .i64 day), (10, .box 1 0), (12, .box 3 0), (31, .sl (facts.map Report.av)), (32, .int .i64 ((facts.length : Nat) : Int)), (33, .int .i64 ((pre.length : Nat) : Int)), (34, .bool false)]) (own := [.box none 25 [.sl (c.Laws.map Law.av), .sl (c.Stills.map Still.av)], .box none 95 [.sl (c.Laws.map Law.av), .sl (c.Stills.map Still.av), .fm (c.Laws.map lawKV) (c.Laws.map Law.av), .fm (homes.map hk) (homes.map hv), .sl (facts.map Report.av), .fm ((closedM facts).map k1) ((closedM facts).map v1), .int .i64 day], .map (D.map idk) (D.map tv), .box none 108 [.mp 2]]) (obs := [decide (((pre.length : Nat) : Int) < ((facts.length : Nat) : Int)) = false]) (by kernel_rfl) ((lt_no hl)) fun ac wd hS => ?_
      refine runs_seq ?_
      refine cond_no hS (c := false) (by kernel_rfl) rfl ?_
      refine runs_exit (by rfl) ?_
      refine runs_seq ?_
      refine runs_seq ?_
      rw [← hDe] at hS
      replace hS : Sat B ⟨Tryz.f17.ntmps, [(3, .int .i64 day), (10, .box 1 0), (12, .box 3 0), (31, .sl (facts.map Report.av)), (32, .int .i64 ((facts.length : Nat) : Int)), (33, .int .i64 ((pre.length : Nat) : Int)), (34, .bool false)], [.box none 25 [.sl (c.Laws.map Law.av), .sl (c.Stills.map Still.av)], .box none 95 [.sl (c.Laws.map Law.av), .sl (c.Stills.map Still.av), .fm (c.Laws.map lawKV) (c.Laws.map Law.av), .fm (homes.map hk) (homes.map hv), .sl (facts.map Report.av), .fm ((closedM facts).map k1) ((closedM facts).map v1), .int .i64 day], .map ((dueJ c homes facts day 0).map idk) ((dueJ c homes facts day 0).map tv), .box none 108 [.mp 2]]⟩ ac wd := hS
      refine reg [(1, .av (.fn (.func 88) [] [.fp [.sl (c.Laws.map Law.av), .sl (c.Stills.map Still.av), .fm (c.Laws.map lawKV) (c.Laws.map Law.av), .fm (homes.map hk) (homes.map hv), .sl (facts.map Report.av), .fm ((closedM facts).map k1) ((closedM facts).map v1), .int .i64 day] 0]))] [12, 46] hG hS (env := [(12, .box 3 0), (46, .fn (.func 88) [] [.fp [.sl (c.Laws.map Law.av), .sl (c.Stills.map Still.av), .fm (c.Laws.map lawKV) (c.Laws.map Law.av), .fm (homes.map hk) (homes.map hv), .sl (facts.map Report.av), .fm ((closedM facts).map k1) ((closedM facts).map v1), .int .i64 day] 0])]) (own := [.box none 25 [.sl (c.Laws.map Law.av), .sl (c.Stills.map Still.av)], .box none 95 [.sl (c.Laws.map Law.av), .sl (c.Stills.map Still.av), .fm (c.Laws.map lawKV) (c.Laws.map Law.av), .fm (homes.map hk) (homes.map hv), .sl (facts.map Report.av), .fm ((closedM facts).map k1) ((closedM facts).map v1), .int .i64 day], .map ((dueJ c homes facts day 0).map idk) ((dueJ c homes facts day 0).map tv), .box none 108 [.mp 2]]) (obs := [CallA Tryz.prog GT 50 [.agg [.sl (c.Laws.map Law.av), .sl (c.Stills.map Still.av), .fm (c.Laws.map lawKV) (c.Laws.map Law.av), .fm (homes.map hk) (homes.map hv), .sl (facts.map Report.av), .fm ((closedM facts).map k1) ((closedM facts).map v1), .int .i64 day]] (.fn (.func 88) [] [.fp [.sl (c.Laws.map Law.av), .sl (c.Stills.map Still.av), .fm (c.Laws.map lawKV) (c.Laws.map Law.av), .fm (homes.map hk) (homes.map hv), .sl (facts.map Report.av), .fm ((closedM facts).map k1) ((closedM facts).map v1), .int .i64 day] 0])]) (by kernel_rfl) ((shownfn_ok _ _ _ _)) fun ac wd hS => ?_
      refine runs_block ?_
      obtain ⟨hp1, hS⟩ := hS.pin 3 rfl
      replace hS : Sat B ⟨Tryz.f17.ntmps, [(46, .fn (.func 88) [] [.fp [.sl (c.Laws.map Law.av), .sl (c.Stills.map Still.av), .fm (c.Laws.map lawKV) (c.Laws.map Law.av), .fm (homes.map hk) (homes.map hv), .sl (facts.map Report.av), .fm ((closedM facts).map k1) ((closedM facts).map v1), .int .i64 day] 0]), (12, .box 0 0)], [.box (some hp1) 108 [.mp 1], .map ((dueJ c homes facts day 0).map idk) ((dueJ c homes facts day 0).map tv)]⟩ ac wd := hS.sel [3, 2] [46, 12] (by kernel_rfl)
      refine rangeFunc2 (elems := (shownL c homes facts day).map (fun r => [Report.av r, .int .i64 ((lastRef c homes facts r).getD 0)])) (fun j => [.box (some hp1) 108 [.mp 1], .map ((dueJ c homes facts day j).map idk) ((dueJ c homes facts day j).map tv)]) [(12, .box 0 0)] hS hBd hG rfl rfl rfl (shown_iter c homes facts day hC hs hp hfl) rfl (fun j e he hg => by subst hg; simp at he) (fun j => ⟨.inr ⟨0, 0, _, _, _, rfl, rfl⟩, trivial⟩) (fun j => ⟨fun i off h T cs hx hi => by cases hx; cases hi; exact ⟨_, _, rfl⟩, trivial⟩) (fun p hp => List.mem_cons_of_mem _ hp) rfl rfl rfl (fun e he => by obtain ⟨r, _, rfl⟩ := List.mem_map.1 he; rfl) ?_ ?_
      · intro j e L D RL BL B ac hLO hej hBd hG hS
        rw [List.getElem?_map] at hej; obtain ⟨x, hx, rfl⟩ := Option.map_eq_some_iff.1 hej
        refine reg [] [12, 15] hG hS (env := [(12, .box 0 0), (15, .box 4 0)]) (own := [.box (some hp1) 108 [.mp 1], .map ((dueJ c homes facts day j).map idk) ((dueJ c homes facts day j).map tv), .obj (some D) (.deferred (some [])), .obj (some L) RL, .box none 73 [.int .i64 x.Id, .int .i64 x.Source, .int .i64 x.Account, .int .i64 x.Made, .int .i64 x.About, .int .u8 (U8.i x.Kind), .int .i64 x.Cents, .int .i64 x.Of]]) (obs := []) (by kernel_rfl) (trivial) fun ac wd hS => ?_
        refine round_begin2 hLO hS (m := 3) rfl fun wd hS => ?_
        refine runs_block ?_
        refine reg [(3, .put ((delK Report.Id (dueJ c homes facts day j) x.Id).map idk) ((delK Report.Id (dueJ c homes facts day j) x.Id).map tv))] [] hG hS (env := []) (own := [.box (some hp1) 108 [.mp 1], .map ((delK Report.Id (dueJ c homes facts day j) x.Id).map idk) ((delK Report.Id (dueJ c homes facts day j) x.Id).map tv), .obj (some D) (.deferred (some [])), .obj (some L) BL, .box none 73 [.int .i64 x.Id, .int .i64 x.Source, .int .i64 x.Account, .int .i64 x.Made, .int .i64 x.About, .int .u8 (U8.i x.Kind), .int .i64 x.Cents, .int .i64 x.Of]]) (obs := [DelOK Tryz.prog 3 ((dueJ c homes facts day j).map idk) ((dueJ c homes facts day j).map tv) (.int .i64 x.Id) ((delK Report.Id (dueJ c homes facts day j) x.Id).map idk) ((delK Report.Id (dueJ c homes facts day j) x.Id).map tv)]) (by kernel_rfl) ((del_any (kf := Report.Id) (vf := tv) (dueJ_nodup hfn) x.Id)) fun ac wd hS => ?_
        refine runs_inBlock ?_
        exact round_end2 (m := 3) hLO (show Sat B ⟨Tryz.f17.ntmps, [], [.box (some hp1) 108 [.mp 1], .map ((delK Report.Id (dueJ c homes facts day j) x.Id).map idk) ((delK Report.Id (dueJ c homes facts day j) x.Id).map tv), .obj (some D) (.deferred (some [])), .obj (some L) BL]⟩ ac wd from hS.sel [0, 1, 2, 3] [] (by kernel_rfl)) rfl (by show [_, OE.map ((dueJ c homes facts day (j + 1)).map idk) ((dueJ c homes facts day (j + 1)).map tv), _, _] = _; rw [due_step hx]; rfl)
      · intro D ac wd hS
        have hG := (show GOK GT { B with df := [markOf D] }.H from hG)
        replace hS : Sat { B with df := [markOf D] } ⟨Tryz.f17.ntmps, [(12, .box 0 0)], [.box (some hp1) 108 [.mp 1], .map ((dueJ c homes facts day ((shownL c homes facts day).length)).map idk) ((dueJ c homes facts day ((shownL c homes facts day).length)).map tv), .obj (some D) (.deferred (some [])), .gone]⟩ ac wd := by have h9 := hS; simp only [List.length_map, List.take_length] at h9; exact h9
        refine runs_inBlock ?_
        refine runs_seq ?_
        refine reg [(0, .row 3 1)] [12, 16] hG hS (env := [(12, .box 0 0), (16, .osl 4)]) (own := [.box (some hp1) 108 [.mp 1], .map ((dueJ c homes facts day ((shownL c homes facts day).length)).map idk) ((dueJ c homes facts day ((shownL c homes facts day).length)).map tv), .obj (some D) (.deferred (some [])), .gone, .row 3 1 []]) (obs := []) (by kernel_rfl) (trivial) fun ac wd hS => ?_
        refine runs_seq ?_
        refine runs_seq ?_
        rw [due_end hfn] at hS
        replace hS : Sat { B with df := [markOf D] } ⟨Tryz.f17.ntmps, [(12, .box 0 0), (16, .osl 4)], [.box (some hp1) 108 [.fm ((goneC c homes facts day).map idk) ((goneC c homes facts day).map tv)], .gone, .obj (some D) (.deferred (some [])), .gone, .row 3 1 []]⟩ ac wd := hS.frz hB 1 (by kernel_rfl)
        refine reg [] [16, 53] hG hS (env := [(16, .osl 4), (53, .itr 5)]) (own := [.box (some hp1) 108 [.fm ((goneC c homes facts day).map idk) ((goneC c homes facts day).map tv)], .gone, .obj (some D) (.deferred (some [])), .gone, .row 3 1 [], .iter ((goneC c homes facts day).map idk) ((goneC c homes facts day).map tv) none]) (obs := []) (by kernel_rfl) (trivial) fun ac wd hS => ?_
        refine runs_block ?_
        refine runs_loop ?_
        have hinv : ∃ (left4 done4 : List Report) (cur4 : Option (AV × AV)), (done4 ++ left4).Perm (goneC c homes facts day) ∧ Sat { B with df := [markOf D] } ⟨Tryz.f17.ntmps, [(16, .osl 4), (53, .itr 5)], [.box (some hp1) 108 [.fm ((goneC c homes facts day).map idk) ((goneC c homes facts day).map tv)], .gone, .obj (some D) (.deferred (some [])), .gone, .row 3 1 ((done4.map Report.Id).map ia), .iter (left4.map idk) (left4.map tv) cur4]⟩ ac wd := ⟨goneC c homes facts day, [], none, List.Perm.refl _, hS.sel [0, 1, 2, 3, 4, 5] [16, 53] (by kernel_rfl)⟩
        clear hS
        obtain ⟨left4, done4, cur4, hperm4, hS⟩ := hinv
        generalize hmm4 : left4.length = mm4
        induction mm4 using Nat.strongRecOn generalizing ac wd left4 done4 cur4 with
        | _ mm4 ihm4 =>
          refine runs_seq ?_
          refine region_nextL (left := left4) (kf := idk) (vf := tv) hS rfl rfl rfl rfl (by rfl) rfl rfl rfl ?_ ?_
          · intro hleft4 ac wd hS
            have hdone4 : done4.Perm (goneC c homes facts day) := by rw [hleft4, List.append_nil] at hperm4; exact hperm4
            refine regT [] [16, 53, 55] hG hS (env := [(16, .osl 4), (53, .itr 5), (55, .bool false)]) (own := [.box (some hp1) 108 [.fm ((goneC c homes facts day).map idk) ((goneC c homes facts day).map tv)], .gone, .obj (some D) (.deferred (some [])), .gone, .row 3 1 ((done4.map Report.Id).map ia), .iter (left4.map idk) (left4.map tv) cur4]) (obs := []) (by kernel_rfl) (by rfl) (trivial) fun ac wd hS => ?_
            refine runs_seq ?_
            refine cond_no hS (c := false) (by kernel_rfl) rfl ?_
            refine runs_exit (by rfl) ?_
            refine runs_seq ?_
            refine reg [(1, .opn (.tup []) [.box (some hp1) 108 [.fm ((goneC c homes facts day).map idk) ((goneC c homes facts day).map tv)], .gone, .obj (some D) (.deferred (some [])), .gone, .row 3 1 ((goneF c homes facts day).map ia), .iter (left4.map idk) (left4.map tv) cur4])] [16] hG hS (env := [(16, .osl 4)]) (own := [.box (some hp1) 108 [.fm ((goneC c homes facts day).map idk) ((goneC c homes facts day).map tv)], .gone, .obj (some D) (.deferred (some [])), .gone, .row 3 1 ((goneF c homes facts day).map ia), .iter (left4.map idk) (left4.map tv) cur4]) (obs := [CallO Tryz.prog GT 51 [.osl 4] [.box (some hp1) 108 [.fm ((goneC c homes facts day).map idk) ((goneC c homes facts day).map tv)], .gone, .obj (some D) (.deferred (some [])), .gone, .row 3 1 ((done4.map Report.Id).map ia), .iter (left4.map idk) (left4.map tv) cur4] (.tup []) [.box (some hp1) 108 [.fm ((goneC c homes facts day).map idk) ((goneC c homes facts day).map tv)], .gone, .obj (some D) (.deferred (some [])), .gone, .row 3 1 ((goneF c homes facts day).map ia), .iter (left4.map idk) (left4.map tv) cur4]]) (by kernel_rfl) ((sort51 (zs := done4.map Report.Id) (ys := goneF c homes facts day) rfl (by have h9 := done_len (left := []) (K := goneC c homes facts day) (by simpa using hdone4); have h8 : (goneC c homes facts day).length ≤ facts.length := List.length_filter_le _ _; rw [List.length_map]; omega) (by rw [gone_sort]; exact (sortL_perm _).trans (hdone4.map Report.Id).symm) (by rw [gone_sort]; exact sortL_sorted _))) fun ac wd hS => ?_
            refine runs_seq ?_
            refine reg [] [8, 9] hG hS (env := [(8, .osl 4), (9, .int .i64 0)]) (own := [.box (some hp1) 108 [.fm ((goneC c homes facts day).map idk) ((goneC c homes facts day).map tv)], .gone, .obj (some D) (.deferred (some [])), .gone, .row 3 1 ((goneF c homes facts day).map ia), .iter (left4.map idk) (left4.map tv) cur4]) (obs := []) (by kernel_rfl) (trivial) fun ac wd hS => ?_
            rw [show (.tup [.sl ((goneR c homes l day).1.map ia), .int .i64 (goneR c homes l day).2] : AV) = .tup [.sl ((goneF c homes facts day).map ia), .int .i64 0] from by (have hfe' := hfe.symm; simp only [goneR, ha, hd, Bool.false_eq_true, if_false, Bool.not_true, hfe'])]
            exact retm 2 Tryz.func17 rfl hB hS rfl (by kernel_rfl) rfl
          · intro lp4 lq4 r4 hmid4 ac wd hS
            have hperm24 := perm_mid hperm4 hmid4
            have hrK4 : r4 ∈ (goneC c homes facts day) := mem_left hperm4 hmid4
            have hlt4 : (lp4 ++ lq4).length < mm4 := by rw [← hmm4, hmid4]; simp
            refine regT [] [16, 53, 55] hG hS (env := [(16, .osl 4), (53, .itr 5), (55, .bool true)]) (own := [.box (some hp1) 108 [.fm ((goneC c homes facts day).map idk) ((goneC c homes facts day).map tv)], .gone, .obj (some D) (.deferred (some [])), .gone, .row 3 1 ((done4.map Report.Id).map ia), .iter ((lp4 ++ lq4).map idk) ((lp4 ++ lq4).map tv) (some (.int .i64 r4.Id, .bool true))]) (obs := []) (by kernel_rfl) (by rfl) (trivial) fun ac wd hS => ?_
            refine runs_seq ?_
            refine cond_yes hS (c := true) (by kernel_rfl) rfl ?_
            refine runs_skip ?_
            refine runs_block ?_
            refine runs_seq ?_
            refine reg [] [16, 53, 17] hG hS (env := [(16, .osl 4), (53, .itr 5), (17, .int .i64 r4.Id)]) (own := [.box (some hp1) 108 [.fm ((goneC c homes facts day).map idk) ((goneC c homes facts day).map tv)], .gone, .obj (some D) (.deferred (some [])), .gone, .row 3 1 ((done4.map Report.Id).map ia), .iter ((lp4 ++ lq4).map idk) ((lp4 ++ lq4).map tv) (some (.int .i64 r4.Id, .bool true))]) (obs := []) (by kernel_rfl) (trivial) fun ac wd hS => ?_
            refine reg [(3, .lst (((done4 ++ [r4]).map Report.Id).map ia))] [16, 53] hG hS (env := [(16, .osl 6), (53, .itr 5)]) (own := [.box (some hp1) 108 [.fm ((goneC c homes facts day).map idk) ((goneC c homes facts day).map tv)], .gone, .obj (some D) (.deferred (some [])), .gone, .gone, .iter ((lp4 ++ lq4).map idk) ((lp4 ++ lq4).map tv) (some (.int .i64 r4.Id, .bool true)), .row 3 1 (((done4 ++ [r4]).map Report.Id).map ia)]) (obs := [AppOK 1 ((done4.map Report.Id).map ia) [.int .i64 r4.Id] ∧ ((done4 ++ [r4]).map Report.Id).map ia = ((done4.map Report.Id).map ia) ++ [.int .i64 r4.Id]]) (by kernel_rfl) (⟨app_ok1i (by have h9 := done_len hperm4; have h8 : (goneC c homes facts day).length ≤ facts.length := List.length_filter_le _ _; rw [List.length_map]; omega) rfl rfl, (by simp [ia])⟩) fun ac wd hS => ?_
            refine runs_inBlock ?_
            refine runs_inLoop ?_
            exact ihm4 _ hlt4 _ _ (lp4 ++ lq4) (done4 ++ [r4]) (some (.int .i64 r4.Id, .bool true)) hperm24 (hS.sel [0, 1, 2, 3, 6, 5] [16, 53] (by kernel_rfl)) rfl
    | cons x rest ihx =>
      refine runs_seq ?_
      refine reg [(0, .dec true)] [3, 10, 12, 31, 32, 33, 34] hG hS (env := [(3, .int .i64 day), (10, .box 1 0), (12, .box 3 0), (31, .sl (facts.map Report.av)), (32, .int .i64 ((facts.length : Nat) : Int)), (33, .int .i64 ((pre.length : Nat) : Int)), (34, .bool true)]) (own := [.box none 25 [.sl (c.Laws.map Law.av), .sl (c.Stills.map Still.av)], .box none 95 [.sl (c.Laws.map Law.av), .sl (c.Stills.map Still.av), .fm (c.Laws.map lawKV) (c.Laws.map Law.av), .fm (homes.map hk) (homes.map hv), .sl (facts.map Report.av), .fm ((closedM facts).map k1) ((closedM facts).map v1), .int .i64 day], .map (D.map idk) (D.map tv), .box none 108 [.mp 2]]) (obs := [decide (((pre.length : Nat) : Int) < ((facts.length : Nat) : Int)) = true]) (by kernel_rfl) ((lt_yes hl)) fun ac wd hS => ?_
      refine runs_seq ?_
      refine cond_yes hS (c := true) (by kernel_rfl) rfl ?_
      refine runs_skip ?_
      refine runs_seq ?_
      refine runs_block ?_
      refine runs_seq ?_
      refine reg [(0, .av (Report.av x))] [3, 10, 12, 31, 32, 33, 14] hG hS (env := [(3, .int .i64 day), (10, .box 1 0), (12, .box 3 0), (31, .sl (facts.map Report.av)), (32, .int .i64 ((facts.length : Nat) : Int)), (33, .int .i64 ((pre.length : Nat) : Int)), (14, .box 4 0)]) (own := [.box none 25 [.sl (c.Laws.map Law.av), .sl (c.Stills.map Still.av)], .box none 95 [.sl (c.Laws.map Law.av), .sl (c.Stills.map Still.av), .fm (c.Laws.map lawKV) (c.Laws.map Law.av), .fm (homes.map hk) (homes.map hv), .sl (facts.map Report.av), .fm ((closedM facts).map k1) ((closedM facts).map v1), .int .i64 day], .map (D.map idk) (D.map tv), .box none 108 [.mp 2], .box none 73 [.int .i64 x.Id, .int .i64 x.Source, .int .i64 x.Account, .int .i64 x.Made, .int .i64 x.About, .int .u8 (U8.i x.Kind), .int .i64 x.Cents, .int .i64 x.Of]]) (obs := [0 ≤ (((pre.length : Nat) : Int) : Int) ∧ (facts.map Report.av : List AV)[(((pre.length : Nat) : Int) : Int).toNat]? = some (Report.av x)]) (by kernel_rfl) ((idx_ok hl)) fun ac wd hS => ?_
      refine runs_seq ?_
      rcases Bool.eq_false_or_eq_true (decide (x.About ≤ day)) with hb1 | hb1
      · skip
        refine reg [(3, .dec true)] [3, 10, 12, 31, 32, 33, 14, 40] hG hS (env := [(3, .int .i64 day), (10, .box 1 0), (12, .box 3 0), (31, .sl (facts.map Report.av)), (32, .int .i64 ((facts.length : Nat) : Int)), (33, .int .i64 ((pre.length : Nat) : Int)), (14, .box 4 0), (40, .bool true)]) (own := [.box none 25 [.sl (c.Laws.map Law.av), .sl (c.Stills.map Still.av)], .box none 95 [.sl (c.Laws.map Law.av), .sl (c.Stills.map Still.av), .fm (c.Laws.map lawKV) (c.Laws.map Law.av), .fm (homes.map hk) (homes.map hv), .sl (facts.map Report.av), .fm ((closedM facts).map k1) ((closedM facts).map v1), .int .i64 day], .map (D.map idk) (D.map tv), .box none 108 [.mp 2], .box none 73 [.int .i64 x.Id, .int .i64 x.Source, .int .i64 x.Account, .int .i64 x.Made, .int .i64 x.About, .int .u8 (U8.i x.Kind), .int .i64 x.Cents, .int .i64 x.Of]]) (obs := [decide (x.About ≤ day) = true]) (by kernel_rfl) (hb1) fun ac wd hS => ?_
        refine cond_yes hS (c := true) (by kernel_rfl) rfl ?_
        refine reg [(3, .put ((D ++ [x]).map idk) ((D ++ [x]).map tv))] [3, 10, 12, 31, 32, 33] hG hS (env := [(3, .int .i64 day), (10, .box 1 0), (12, .box 3 0), (31, .sl (facts.map Report.av)), (32, .int .i64 ((facts.length : Nat) : Int)), (33, .int .i64 ((pre.length : Nat) : Int))]) (own := [.box none 25 [.sl (c.Laws.map Law.av), .sl (c.Stills.map Still.av)], .box none 95 [.sl (c.Laws.map Law.av), .sl (c.Stills.map Still.av), .fm (c.Laws.map lawKV) (c.Laws.map Law.av), .fm (homes.map hk) (homes.map hv), .sl (facts.map Report.av), .fm ((closedM facts).map k1) ((closedM facts).map v1), .int .i64 day], .map ((D ++ [x]).map idk) ((D ++ [x]).map tv), .box none 108 [.mp 2], .box none 73 [.int .i64 x.Id, .int .i64 x.Source, .int .i64 x.Account, .int .i64 x.Made, .int .i64 x.About, .int .u8 (U8.i x.Kind), .int .i64 x.Cents, .int .i64 x.Of]]) (obs := [PutOK Tryz.prog 3 (D.map idk) (D.map tv) (.int .i64 x.Id) (.bool true) ((D ++ [x]).map idk) ((D ++ [x]).map tv)]) (by kernel_rfl) ((put_new (kf := Report.Id) (vf := tv) (by rw [hD]; exact due_nodup (nd_preK (kf := Report.Id) hfn hl).1 _) x (by rw [hD]; exact due_fresh hfn hl _))) fun ac wd hS => ?_
        refine runs_inBlock ?_
        refine reg [(0, .is (((pre ++ [x]).length : Nat) : Int))] [3, 10, 12, 31, 32, 33] hG hS (env := [(3, .int .i64 day), (10, .box 1 0), (12, .box 3 0), (31, .sl (facts.map Report.av)), (32, .int .i64 ((facts.length : Nat) : Int)), (33, .int .i64 (((pre ++ [x]).length : Nat) : Int))]) (own := [.box none 25 [.sl (c.Laws.map Law.av), .sl (c.Stills.map Still.av)], .box none 95 [.sl (c.Laws.map Law.av), .sl (c.Stills.map Still.av), .fm (c.Laws.map lawKV) (c.Laws.map Law.av), .fm (homes.map hk) (homes.map hv), .sl (facts.map Report.av), .fm ((closedM facts).map k1) ((closedM facts).map v1), .int .i64 day], .map ((D ++ [x]).map idk) ((D ++ [x]).map tv), .box none 108 [.mp 2], .box none 73 [.int .i64 x.Id, .int .i64 x.Source, .int .i64 x.Account, .int .i64 x.Made, .int .i64 x.About, .int .u8 (U8.i x.Kind), .int .i64 x.Cents, .int .i64 x.Of]]) (obs := [IntKind.i64.wrap (((pre.length : Nat) : Int) + 1) = (((pre ++ [x]).length : Nat) : Int)]) (by kernel_rfl) ((next_len hl (by omega))) fun ac wd hS => ?_
        refine runs_inLoop ?_
        exact ihx _ _ (pre ++ [x]) (D ++ [x]) (next_eq hl) (by rw [List.filter_append, ← hD, List.filter_cons, hb1]; simp) (hS.sel [0, 1, 2, 3] [3, 10, 12, 31, 32, 33] (by kernel_rfl))
      · skip
        refine reg [(3, .dec false)] [3, 10, 12, 31, 32, 33, 14, 40] hG hS (env := [(3, .int .i64 day), (10, .box 1 0), (12, .box 3 0), (31, .sl (facts.map Report.av)), (32, .int .i64 ((facts.length : Nat) : Int)), (33, .int .i64 ((pre.length : Nat) : Int)), (14, .box 4 0), (40, .bool false)]) (own := [.box none 25 [.sl (c.Laws.map Law.av), .sl (c.Stills.map Still.av)], .box none 95 [.sl (c.Laws.map Law.av), .sl (c.Stills.map Still.av), .fm (c.Laws.map lawKV) (c.Laws.map Law.av), .fm (homes.map hk) (homes.map hv), .sl (facts.map Report.av), .fm ((closedM facts).map k1) ((closedM facts).map v1), .int .i64 day], .map (D.map idk) (D.map tv), .box none 108 [.mp 2], .box none 73 [.int .i64 x.Id, .int .i64 x.Source, .int .i64 x.Account, .int .i64 x.Made, .int .i64 x.About, .int .u8 (U8.i x.Kind), .int .i64 x.Cents, .int .i64 x.Of]]) (obs := [decide (x.About ≤ day) = false]) (by kernel_rfl) (hb1) fun ac wd hS => ?_
        refine cond_no hS (c := false) (by kernel_rfl) rfl ?_
        refine runs_skip ?_
        refine runs_inBlock ?_
        refine reg [(0, .is (((pre ++ [x]).length : Nat) : Int))] [3, 10, 12, 31, 32, 33] hG hS (env := [(3, .int .i64 day), (10, .box 1 0), (12, .box 3 0), (31, .sl (facts.map Report.av)), (32, .int .i64 ((facts.length : Nat) : Int)), (33, .int .i64 (((pre ++ [x]).length : Nat) : Int))]) (own := [.box none 25 [.sl (c.Laws.map Law.av), .sl (c.Stills.map Still.av)], .box none 95 [.sl (c.Laws.map Law.av), .sl (c.Stills.map Still.av), .fm (c.Laws.map lawKV) (c.Laws.map Law.av), .fm (homes.map hk) (homes.map hv), .sl (facts.map Report.av), .fm ((closedM facts).map k1) ((closedM facts).map v1), .int .i64 day], .map (D.map idk) (D.map tv), .box none 108 [.mp 2], .box none 73 [.int .i64 x.Id, .int .i64 x.Source, .int .i64 x.Account, .int .i64 x.Made, .int .i64 x.About, .int .u8 (U8.i x.Kind), .int .i64 x.Cents, .int .i64 x.Of]]) (obs := [IntKind.i64.wrap (((pre.length : Nat) : Int) + 1) = (((pre ++ [x]).length : Nat) : Int)]) (by kernel_rfl) ((next_len hl (by omega))) fun ac wd hS => ?_
        refine runs_inLoop ?_
        exact ihx _ _ (pre ++ [x]) D (next_eq hl) (by rw [List.filter_append, ← hD, List.filter_cons, hb1]; simp) (hS.sel [0, 1, 2, 3] [3, 10, 12, 31, 32, 33] (by kernel_rfl))
end Go.Fw

set_option maxRecDepth 20000
namespace Go.Fw
open Go.Proofs

theorem great_no {c : Code} {homes : List Home} {l : List Report} (h : greatB c homes l = false) : c.Laws.length ≤ 60 ∧ c.Stills.length ≤ 60 ∧ homes.length ≤ 80 ∧ l.length ≤ 80 := by
  simp only [greatB, Bool.or_eq_false_iff, decide_eq_false_iff_not] at h
  omega
theorem same_code (c : Code) : sameCodeB c c = true := by simp [sameCodeB]
theorem app_allH {l : List Home} (h : l.length ≤ 60000) : AppOK 2 [] (l.map Home.av) := ⟨by simp; omega, fun e he => by obtain ⟨r, _, rfl⟩ := List.mem_map.1 he; exact ⟨rfl, rfl⟩⟩
theorem gone_len (c : Code) (homes : List Home) (l : List Report) (day : Int) : (goneR c homes l day).1.length ≤ 65536 := by
  unfold goneR
  cases ha : (askedI c homes l != 0)
  · simp only [Bool.false_eq_true, if_false]
    split
    · simp
    · obtain ⟨hf, _⟩ := asked_fine ha
      have h1 := hf.flen day
      simp only
      rw [gone_sort, (sortL_perm _).length_eq, List.length_map]
      have h2 : (goneC c homes (factsL l day) day).length ≤ (factsL l day).length := List.length_filter_le _ _
      omega
  · simp
theorem termLasts_ok (c : Code) (homes : List Home) (l : List Report) (id day : Int) : CallA Tryz.prog GT 3 [Code.av c, .sl (homes.map Home.av), .sl (l.map Report.av), .int .i64 id, .int .i64 day] (.bool true) := by
  refine callA_of Tryz.func3 rfl (by simp [Tryz.f3]) rfl fun B ac hB hBd hG hS => ?_
  refine runs_seq ?_
  refine reg [] [1, 2, 3, 4, 5] hG hS (env := [(1, .sl (homes.map Home.av)), (2, .sl (l.map Report.av)), (3, .int .i64 id), (4, .int .i64 day), (5, .box 0 0)]) (own := [.box none 25 [.sl (c.Laws.map Law.av), .sl (c.Stills.map Still.av)]]) (obs := []) (by kernel_rfl) (trivial) fun ac wd hS => ?_
  refine runs_seq ?_
  refine runs_seq ?_
  rcases Bool.eq_false_or_eq_true (greatB c homes l) with hb1 | hb1
  · skip
    refine reg [(3, .av (.bool (greatB c homes l)))] [1, 2, 3, 4, 5, 24] hG hS (env := [(1, .sl (homes.map Home.av)), (2, .sl (l.map Report.av)), (3, .int .i64 id), (4, .int .i64 day), (5, .box 0 0), (24, .bool (greatB c homes l))]) (own := [.box none 25 [.sl (c.Laws.map Law.av), .sl (c.Stills.map Still.av)]]) (obs := [CallA Tryz.prog GT 13 [Code.av c, .sl (homes.map Home.av), .sl (l.map Report.av)] (.bool (greatB c homes l))]) (by kernel_rfl) ((great_ok _ _ _)) fun ac wd hS => ?_
    refine cond_yes hS (c := greatB c homes l) (by kernel_rfl) (hb1) ?_
    refine runs_seq ?_
    refine reg [] [10] hG hS (env := [(10, .bool true)]) (own := [.box none 25 [.sl (c.Laws.map Law.av), .sl (c.Stills.map Still.av)]]) (obs := []) (by kernel_rfl) (trivial) fun ac wd hS => ?_
    skip
    exact retz Tryz.func3 rfl hB hBd hS (by kernel_rfl) rfl
  · skip
    refine reg [(3, .av (.bool (greatB c homes l)))] [1, 2, 3, 4, 5, 24] hG hS (env := [(1, .sl (homes.map Home.av)), (2, .sl (l.map Report.av)), (3, .int .i64 id), (4, .int .i64 day), (5, .box 0 0), (24, .bool (greatB c homes l))]) (own := [.box none 25 [.sl (c.Laws.map Law.av), .sl (c.Stills.map Still.av)]]) (obs := [CallA Tryz.prog GT 13 [Code.av c, .sl (homes.map Home.av), .sl (l.map Report.av)] (.bool (greatB c homes l))]) (by kernel_rfl) ((great_ok _ _ _)) fun ac wd hS => ?_
    refine cond_no hS (c := greatB c homes l) (by kernel_rfl) (hb1) ?_
    refine runs_skip ?_
    refine runs_seq ?_
    obtain ⟨hg1, hg2, hg3, hg4⟩ := great_no hb1
    · skip
      refine reg [(1, .av (Code.av c)), (2, .own), (4, .lst (homes.map Home.av))] [1, 2, 3, 4, 5, 11, 12] hG hS (env := [(1, .sl (homes.map Home.av)), (2, .sl (l.map Report.av)), (3, .int .i64 id), (4, .int .i64 day), (5, .box 0 0), (11, .box 3 0), (12, .osl 2)]) (own := [.box none 25 [.sl (c.Laws.map Law.av), .sl (c.Stills.map Still.av)], .gone, .row 68 2 (homes.map Home.av), .box none 25 [.sl (c.Laws.map Law.av), .sl (c.Stills.map Still.av)]]) (obs := [CallA Tryz.prog GT 14 [Code.av c] (Code.av c), AppOK 2 [] (homes.map Home.av) ∧ homes.map Home.av = [] ++ (homes.map Home.av)]) (by kernel_rfl) (⟨(twin_ok c (by omega) (by omega)), ⟨app_allH (by omega), rfl⟩⟩) fun ac wd hS => ?_
      replace hS : Sat B ⟨Tryz.f3.ntmps, [(1, .sl (homes.map Home.av)), (2, .sl (l.map Report.av)), (3, .int .i64 id), (4, .int .i64 day), (5, .box 0 0), (11, .box 3 0), (12, .sl (homes.map Home.av))], [.box none 25 [.sl (c.Laws.map Law.av), .sl (c.Stills.map Still.av)], .gone, .gone, .box none 25 [.sl (c.Laws.map Law.av), .sl (c.Stills.map Still.av)]]⟩ ac wd := hS.frz hB 2 (by kernel_rfl)
      refine runs_seq ?_
      refine reg [(5, .av (.tup [.int .i64 ((lastR c homes l id day).1), .int .i64 ((lastR c homes l id day).2)]))] [1, 2, 3, 4, 5, 11, 12, 13, 14] hG hS (env := [(1, .sl (homes.map Home.av)), (2, .sl (l.map Report.av)), (3, .int .i64 id), (4, .int .i64 day), (5, .box 0 0), (11, .box 3 0), (12, .sl (homes.map Home.av)), (13, .int .i64 ((lastR c homes l id day).1)), (14, .int .i64 ((lastR c homes l id day).2))]) (own := [.box none 25 [.sl (c.Laws.map Law.av), .sl (c.Stills.map Still.av)], .gone, .gone, .box none 25 [.sl (c.Laws.map Law.av), .sl (c.Stills.map Still.av)]]) (obs := [CallA Tryz.prog GT 15 [Code.av c, .sl (homes.map Home.av), .sl (l.map Report.av), .int .i64 id, .int .i64 day] (.tup [.int .i64 ((lastR c homes l id day).1), .int .i64 ((lastR c homes l id day).2)])]) (by kernel_rfl) ((last_call c homes l id day (by omega) (by omega) (by omega) (by omega))) fun ac wd hS => ?_
      refine runs_seq ?_
      refine reg [(5, .av (.tup [.int .i64 ((lastR c homes l id day).1), .int .i64 ((lastR c homes l id day).2)]))] [1, 2, 4, 5, 11, 12, 13, 14, 15, 16] hG hS (env := [(1, .sl (homes.map Home.av)), (2, .sl (l.map Report.av)), (4, .int .i64 day), (5, .box 0 0), (11, .box 3 0), (12, .sl (homes.map Home.av)), (13, .int .i64 ((lastR c homes l id day).1)), (14, .int .i64 ((lastR c homes l id day).2)), (15, .int .i64 ((lastR c homes l id day).1)), (16, .int .i64 ((lastR c homes l id day).2))]) (own := [.box none 25 [.sl (c.Laws.map Law.av), .sl (c.Stills.map Still.av)], .gone, .gone, .box none 25 [.sl (c.Laws.map Law.av), .sl (c.Stills.map Still.av)]]) (obs := [CallA Tryz.prog GT 16 [Code.av c, .sl (homes.map Home.av), .sl (l.map Report.av), .int .i64 id, .int .i64 day] (.tup [.int .i64 ((lastR c homes l id day).1), .int .i64 ((lastR c homes l id day).2)])]) (by kernel_rfl) ((lastRef_call c homes l id day (by omega) (by omega) (by omega) (by omega))) fun ac wd hS => ?_
      refine runs_seq ?_
      refine reg [(4, .av (.tup [.sl ((goneR c homes l day).1.map ia), .int .i64 ((goneR c homes l day).2)]))] [1, 2, 4, 5, 11, 12, 13, 14, 15, 16, 17, 18] hG hS (env := [(1, .sl (homes.map Home.av)), (2, .sl (l.map Report.av)), (4, .int .i64 day), (5, .box 0 0), (11, .box 3 0), (12, .sl (homes.map Home.av)), (13, .int .i64 ((lastR c homes l id day).1)), (14, .int .i64 ((lastR c homes l id day).2)), (15, .int .i64 ((lastR c homes l id day).1)), (16, .int .i64 ((lastR c homes l id day).2)), (17, .sl ((goneR c homes l day).1.map ia)), (18, .int .i64 ((goneR c homes l day).2))]) (own := [.box none 25 [.sl (c.Laws.map Law.av), .sl (c.Stills.map Still.av)], .gone, .gone, .box none 25 [.sl (c.Laws.map Law.av), .sl (c.Stills.map Still.av)]]) (obs := [CallA Tryz.prog GT 17 [Code.av c, .sl (homes.map Home.av), .sl (l.map Report.av), .int .i64 day] (.tup [.sl ((goneR c homes l day).1.map ia), .int .i64 ((goneR c homes l day).2)])]) (by kernel_rfl) ((gone_call c homes l day (by omega) (by omega) (by omega) (by omega))) fun ac wd hS => ?_
      refine runs_seq ?_
      refine reg [(4, .av (.tup [.sl ((goneR c homes l day).1.map ia), .int .i64 ((goneR c homes l day).2)]))] [1, 5, 11, 12, 13, 14, 15, 16, 17, 18, 19, 20] hG hS (env := [(1, .sl (homes.map Home.av)), (5, .box 0 0), (11, .box 3 0), (12, .sl (homes.map Home.av)), (13, .int .i64 ((lastR c homes l id day).1)), (14, .int .i64 ((lastR c homes l id day).2)), (15, .int .i64 ((lastR c homes l id day).1)), (16, .int .i64 ((lastR c homes l id day).2)), (17, .sl ((goneR c homes l day).1.map ia)), (18, .int .i64 ((goneR c homes l day).2)), (19, .sl ((goneR c homes l day).1.map ia)), (20, .int .i64 ((goneR c homes l day).2))]) (own := [.box none 25 [.sl (c.Laws.map Law.av), .sl (c.Stills.map Still.av)], .gone, .gone, .box none 25 [.sl (c.Laws.map Law.av), .sl (c.Stills.map Still.av)]]) (obs := [CallA Tryz.prog GT 18 [Code.av c, .sl (homes.map Home.av), .sl (l.map Report.av), .int .i64 day] (.tup [.sl ((goneR c homes l day).1.map ia), .int .i64 ((goneR c homes l day).2)])]) (by kernel_rfl) ((goneRef_call c homes l day (by omega) (by omega) (by omega) (by omega))) fun ac wd hS => ?_
      refine runs_seq ?_
      refine drw [(2, .av (.int .i64 (checkRefI c homes))), (5, .av (.int .i64 (checkRefI c homes))), (7, .dec true), (12, .dec true), (17, .dec true), (20, .av (.bool (decide ((goneR c homes l day).1 = (goneR c homes l day).1)))), (22, .dec true), (27, .dec true), (30, .av (.bool (sameCodeB c c))), (32, .dec true), (35, .av (.bool (decide (homes = homes)))), (36, .dec true)] [10] hG hS (env := [(10, .bool true)]) (own := [.box none 25 [.sl (c.Laws.map Law.av), .sl (c.Stills.map Still.av)], .gone, .gone, .box none 25 [.sl (c.Laws.map Law.av), .sl (c.Stills.map Still.av)]]) (obs := [CallA Tryz.prog GT 19 [Code.av c, .sl (homes.map Home.av)] (.int .i64 (checkRefI c homes)), CallA Tryz.prog GT 20 [Code.av c, .sl (homes.map Home.av)] (.int .i64 (checkRefI c homes)), ((checkRefI c homes) == (checkRefI c homes)) = true, (((lastR c homes l id day).1) == ((lastR c homes l id day).1)) = true, (((lastR c homes l id day).2) == ((lastR c homes l id day).2)) = true, CallA Tryz.prog GT 21 [.sl ((goneR c homes l day).1.map ia), .sl ((goneR c homes l day).1.map ia)] (.bool (decide ((goneR c homes l day).1 = (goneR c homes l day).1))), decide ((goneR c homes l day).1 = (goneR c homes l day).1) = true, (((goneR c homes l day).2) == ((goneR c homes l day).2)) = true, CallA Tryz.prog GT 22 [Code.av c, Code.av c] (.bool (sameCodeB c c)), sameCodeB c c = true, CallA Tryz.prog GT 23 [.sl (homes.map Home.av), .sl (homes.map Home.av)] (.bool (decide (homes = homes))), decide (homes = homes) = true]) (by kernel_rfl) (by kernel_rfl) (⟨(by rw [← check_eq]; exact check_ok _ _ (by omega) (by omega) (by omega)), (checkRef_ok _ _ (by omega) (by omega) (by omega)), (beq_self_eq_true _), (beq_self_eq_true _), (beq_self_eq_true _), (sameInts_ok _ _ (gone_len _ _ _ _)), (decide_eq_true rfl), (beq_self_eq_true _), (sameCode_ok _ _ (by omega) (by omega)), (same_code _), (sameHomes_ok _ _ (by omega)), (decide_eq_true rfl)⟩) fun ac wd hS => ?_
      skip
      exact retz Tryz.func3 rfl hB hBd hS (by kernel_rfl) rfl
end Go.Fw

namespace Go.Fw
open Go.Proofs Go.ChangeShapes Go.RowKit

theorem u8_of {n : Int} (h : (Lit.int .u8 n).wf = true) : ∃ k : U8, n = U8.i k := by
  have h1 := bounds_u8 h
  exact ⟨⟨n.toNat, by omega⟩, by simp [U8.i]; omega⟩
theorem rd_law : Rd Tryz.prog 66 Law.av := by
  intro H enc w base spare held fuel cs x h
  obtain ⟨n0, e0, _⟩ := fld_int Tryz.underlying66 h (i := 0) rfl Tryz.underlying3 (by kernel_rfl)
  obtain ⟨n1, e1, w1⟩ := fld_int Tryz.underlying66 h (i := 1) rfl Tryz.underlying5 (by kernel_rfl)
  obtain ⟨n2, e2, w2⟩ := fld_int Tryz.underlying66 h (i := 2) rfl Tryz.underlying5 (by kernel_rfl)
  obtain ⟨n3, e3, _⟩ := fld_int Tryz.underlying66 h (i := 3) rfl Tryz.underlying3 (by kernel_rfl)
  obtain ⟨k1, rfl⟩ := u8_of w1
  obtain ⟨k2, rfl⟩ := u8_of w2
  have hl : cs.length = 4 := (cells_of Tryz.underlying66 h).trans (by kernel_rfl)
  match cs, hl with
  | [c0, c1, c2, c3], _ =>
    simp at e0 e1 e2 e3
    subst e0 e1 e2 e3
    exact ⟨⟨n0, k1, k2, n3⟩, .agg ⟨[.int .i64 n0, .int .u8 (U8.i k1), .int .u8 (U8.i k2), .int .i64 n3]⟩, by simp [Conc, ConcL, Law.av], rfl⟩
theorem rd_still : Rd Tryz.prog 91 Still.av := by
  intro H enc w base spare held fuel cs x h
  obtain ⟨n0, e0, _⟩ := fld_int Tryz.underlying91 h (i := 0) rfl Tryz.underlying3 (by kernel_rfl)
  obtain ⟨n1, e1, _⟩ := fld_int Tryz.underlying91 h (i := 1) rfl Tryz.underlying3 (by kernel_rfl)
  obtain ⟨n2, e2, w2⟩ := fld_int Tryz.underlying91 h (i := 2) rfl Tryz.underlying5 (by kernel_rfl)
  obtain ⟨k2, rfl⟩ := u8_of w2
  have hl : cs.length = 3 := (cells_of Tryz.underlying91 h).trans (by kernel_rfl)
  match cs, hl with
  | [c0, c1, c2], _ =>
    simp at e0 e1 e2
    subst e0 e1 e2
    exact ⟨⟨n0, n1, k2⟩, .agg ⟨[.int .i64 n0, .int .i64 n1, .int .u8 (U8.i k2)]⟩, by simp [Conc, ConcL, Still.av], rfl⟩
theorem rd_home : Rd Tryz.prog 68 Home.av := by
  intro H enc w base spare held fuel cs x h
  obtain ⟨n0, e0, _⟩ := fld_int Tryz.underlying68 h (i := 0) rfl Tryz.underlying3 (by kernel_rfl)
  obtain ⟨n1, e1, _⟩ := fld_int Tryz.underlying68 h (i := 1) rfl Tryz.underlying3 (by kernel_rfl)
  have hl : cs.length = 2 := (cells_of Tryz.underlying68 h).trans (by kernel_rfl)
  match cs, hl with
  | [c0, c1], _ =>
    simp at e0 e1
    subst e0 e1
    exact ⟨⟨n0, n1⟩, .agg ⟨[.int .i64 n0, .int .i64 n1]⟩, by simp [Conc, ConcL, Home.av], rfl⟩
theorem rd_report : Rd Tryz.prog 73 Report.av := by
  intro H enc w base spare held fuel cs x h
  obtain ⟨n0, e0, _⟩ := fld_int Tryz.underlying73 h (i := 0) rfl Tryz.underlying3 (by kernel_rfl)
  obtain ⟨n1, e1, _⟩ := fld_int Tryz.underlying73 h (i := 1) rfl Tryz.underlying3 (by kernel_rfl)
  obtain ⟨n2, e2, _⟩ := fld_int Tryz.underlying73 h (i := 2) rfl Tryz.underlying3 (by kernel_rfl)
  obtain ⟨n3, e3, _⟩ := fld_int Tryz.underlying73 h (i := 3) rfl Tryz.underlying3 (by kernel_rfl)
  obtain ⟨n4, e4, _⟩ := fld_int Tryz.underlying73 h (i := 4) rfl Tryz.underlying3 (by kernel_rfl)
  obtain ⟨n5, e5, w5⟩ := fld_int Tryz.underlying73 h (i := 5) rfl Tryz.underlying5 (by kernel_rfl)
  obtain ⟨n6, e6, _⟩ := fld_int Tryz.underlying73 h (i := 6) rfl Tryz.underlying3 (by kernel_rfl)
  obtain ⟨n7, e7, _⟩ := fld_int Tryz.underlying73 h (i := 7) rfl Tryz.underlying3 (by kernel_rfl)
  obtain ⟨k5, rfl⟩ := u8_of w5
  have hl : cs.length = 8 := (cells_of Tryz.underlying73 h).trans (by kernel_rfl)
  match cs, hl with
  | [c0, c1, c2, c3, c4, c5, c6, c7], _ =>
    simp at e0 e1 e2 e3 e4 e5 e6 e7
    subst e0 e1 e2 e3 e4 e5 e6 e7
    exact ⟨⟨n0, n1, n2, n3, n4, k5, n6, n7⟩, .agg ⟨[.int .i64 n0, .int .i64 n1, .int .i64 n2, .int .i64 n3, .int .i64 n4, .int .u8 (U8.i k5), .int .i64 n6, .int .i64 n7]⟩, by simp [Conc, ConcL, Report.av], rfl⟩
theorem rd_laws : Rd1 Tryz.prog 22 (fun l : List Law => .sl (l.map Law.av)) := rd_slice Tryz.underlying22 rd_law (by rw [show Tryz.prog.cellsOf 66 = 4 by kernel_rfl]; decide)
theorem rd_stills : Rd1 Tryz.prog 23 (fun l : List Still => .sl (l.map Still.av)) := rd_slice Tryz.underlying23 rd_still (by rw [show Tryz.prog.cellsOf 91 = 3 by kernel_rfl]; decide)
theorem rd_homes : Rd1 Tryz.prog 26 (fun l : List Home => .sl (l.map Home.av)) := rd_slice Tryz.underlying26 rd_home (by rw [show Tryz.prog.cellsOf 68 = 2 by kernel_rfl]; decide)
theorem rd_reports : Rd1 Tryz.prog 27 (fun l : List Report => .sl (l.map Report.av)) := rd_slice Tryz.underlying27 rd_report (by rw [show Tryz.prog.cellsOf 73 = 8 by kernel_rfl]; decide)
theorem rd_code : Rd Tryz.prog 25 Code.av := by
  intro H enc w base spare held fuel cs x h
  obtain ⟨r0, v0, h0, e0⟩ := fld_rd Tryz.underlying25 h (i := 0) rfl rd_laws (by kernel_rfl)
  obtain ⟨r1, v1, h1, e1⟩ := fld_rd Tryz.underlying25 h (i := 1) rfl rd_stills (by kernel_rfl)
  have hl : cs.length = 2 := (cells_of Tryz.underlying25 h).trans (by kernel_rfl)
  match cs, hl with
  | [c0, c1], _ =>
    simp at e0 e1
    subst e0 e1
    exact ⟨⟨r0, r1⟩, .agg ⟨[c0, c1]⟩, ⟨[c0, c1], rfl, c0, [c1], rfl, h0, c1, [], rfl, h1, rfl⟩, rfl⟩
section
variable {w : World}
theorem most_of {cs : Array Value} {fuel : Nat} {p : List MemPlace} (h : DataW.trod (fun _ => ()) Tryz.prog w 0 (fun _ => true) false fuel 182 cs.toList = some (.agg [.lit (.int .i64 0), .lit (.int .i64 0), .lit (.int .i64 1000000000000), .lit (.int .i64 1000000000000), .lit (.int .i64 1000000000000), .lit (.int .i64 10000), .lit (.int .i64 1000000000000), .lit (.int .i64 0), .lit (.int .i64 1000000000000), .lit (.int .i64 0)], p)) :
    cs.toList = [.int .i64 0, .int .i64 0, .int .i64 1000000000000, .int .i64 1000000000000, .int .i64 1000000000000, .int .i64 10000, .int .i64 1000000000000, .int .i64 0, .int .i64 1000000000000, .int .i64 0] := by
  obtain ⟨xs, m, rfl, hx, hl, hn, hel⟩ := DataW.trod_array Tryz.underlying182 h
  have c3 : Tryz.prog.cellsOf 3 = 1 := by kernel_rfl
  have c182 : Tryz.prog.cellsOf 182 = 10 := by kernel_rfl
  rw [c182] at hl
  have key : ∀ i, i < 10 → ∃ n, cs.toList[i]? = some (.int .i64 n) ∧ (xs.map (·.1))[i]? = some (.lit (.int .i64 n)) := by
    intro i hi
    have h1 := hel i hi
    rw [List.getElem?_eq_getElem (by omega : i < xs.length)] at h1
    obtain ⟨n, e1, e2, _⟩ := DataW.trod_int Tryz.underlying3 h1
    rw [c3] at e1
    refine ⟨n, ?_, ?_⟩
    · have := congrArg (fun l => l[0]?) e1
      simpa [List.getElem?_take, List.getElem?_drop] using this
    · rw [List.getElem?_map, List.getElem?_eq_getElem (by omega : i < xs.length), e2]; rfl
  simp only [Prod.mk.injEq, DataW.agg.injEq] at hx
  rw [← hx.1] at key
  refine List.ext_getElem? fun i => ?_
  by_cases hi : i < 10
  · obtain ⟨n, e1, e2⟩ := key i hi
    rw [e1]
    match i, hi with
    | 0, _ | 1, _ | 2, _ | 3, _ | 4, _ | 5, _ | 6, _ | 7, _ | 8, _ | 9, _ => simp at e2; simp [e2]
  · rw [List.getElem?_eq_none (by omega), List.getElem?_eq_none (by simp; omega)]
theorem nilfn_of {t : TypeId} {ps rs : Array TypeId} {va : Bool} {fuel : Nat} {v : Value} {p : List MemPlace} (ht : Tryz.prog.underlying t = some (.func ps rs va)) (h : DataW.trod (funcToken Tryz.prog) Tryz.prog w 0 (fun _ => true) true fuel t [v] = some (.nil, p)) : v = .nilFunc := by
  cases fuel with
  | zero => simp [DataW.trod] at h
  | succ n => cases v <;> simp_all [DataW.trod]
theorem one_of {cs : List Value} {i : Nat} (hi : i < cs.length) : ∃ v, (cs.drop (i * 1)).take 1 = [v] ∧ cs[i]? = some v :=
  ⟨cs[i], by rw [Nat.mul_one, List.drop_eq_getElem_cons hi]; rfl, List.getElem?_eq_getElem hi⟩
set_option maxRecDepth 100000 in
theorem bases_of {cs : Array Value} {fuel : Nat} {p : List MemPlace} {s1 s2 s3 : List UInt8} {b1 b2 b3 : UInt8} (h : DataW.trod (funcToken Tryz.prog) Tryz.prog w 0 (fun _ => true) true fuel 166 cs.toList = some (.agg [.nil, .held (b1 :: s1), .held (b2 :: s2), .held (b3 :: s3)], p))
    (h1 : ((List.range Tryz.prog.funcs.size).filter fun f => (Tryz.prog.funcs[f]?).any (·.name.toUTF8.data.toList == b1 :: s1)) = [186])
    (h2 : ((List.range Tryz.prog.funcs.size).filter fun f => (Tryz.prog.funcs[f]?).any (·.name.toUTF8.data.toList == b2 :: s2)) = [187])
    (h3 : ((List.range Tryz.prog.funcs.size).filter fun f => (Tryz.prog.funcs[f]?).any (·.name.toUTF8.data.toList == b3 :: s3)) = [188]) :
    cs.toList = [.nilFunc, .func (.func 186) #[] #[], .func (.func 187) #[] #[], .func (.func 188) #[] #[]] := by
  obtain ⟨xs, m, rfl, hx, hl, hn, hel⟩ := DataW.trod_array Tryz.underlying166 h
  have c3 : Tryz.prog.cellsOf 165 = 1 := by kernel_rfl
  have c182 : Tryz.prog.cellsOf 166 = 4 := by kernel_rfl
  rw [c182] at hl
  simp only [Prod.mk.injEq, DataW.agg.injEq] at hx
  match xs, hn, hx with
  | [x0, x1, x2, x3], _, hx =>
    simp only [List.map_cons, List.map_nil, List.cons.injEq] at hx
    obtain ⟨⟨a0, a1, a2, a3, _⟩, _⟩ := hx
    have g0 := hel 0 (by decide)
    have g1 := hel 1 (by decide)
    have g2 := hel 2 (by decide)
    have g3 := hel 3 (by decide)
    rw [c3] at g0 g1 g2 g3
    obtain ⟨v0, e0, k0⟩ := one_of (cs := cs.toList) (i := 0) (by omega)
    obtain ⟨v1, e1, k1⟩ := one_of (cs := cs.toList) (i := 1) (by omega)
    obtain ⟨v2, e2, k2⟩ := one_of (cs := cs.toList) (i := 2) (by omega)
    obtain ⟨v3, e3, k3⟩ := one_of (cs := cs.toList) (i := 3) (by omega)
    rw [e0] at g0; rw [e1] at g1; rw [e2] at g2; rw [e3] at g3
    have f0 := nilfn_of (p := x0.2) Tryz.underlying165 (g0.trans (by simp [a0]))
    have f1 := func_of_trod (q := x1.2) Tryz.underlying165 h1 (g1.trans (by simp [a1]))
    have f2 := func_of_trod (q := x2.2) Tryz.underlying165 h2 (g2.trans (by simp [a2]))
    have f3 := func_of_trod (q := x3.2) Tryz.underlying165 h3 (g3.trans (by simp [a3]))
    subst f0 f1 f2 f3
    match hcs : cs.toList, hl with
    | [c0, c1, c2, c3], _ =>
      rw [hcs] at k0 k1 k2 k3
      simp at k0 k1 k2 k3
      subst k0 k1 k2 k3
      rfl
theorem fp_of {g : Nat} {n : String} {cs : Array Value} {l : List AV} (hg : Tryz.prog.globalNamed n = some g) (hv : w.var? Tryz.prog n = some cs) (hl : ConcL [] (heapH w) l cs.toList) : Conc [] (heapH w) (.fp l 0) (.pointer (some ⟨g, 0, none⟩)) := by
  unfold World.var? at hv
  rw [hg] at hv
  simp only [Option.bind_some] at hv
  cases hh : w.heap[g]? with
  | none => rw [hh] at hv; cases hv
  | some o =>
    rw [hh] at hv
    cases o with
    | cells c T fz =>
      obtain rfl : c = cs := by simpa using hv
      simp only [Conc]
      exact ⟨g, 0, c, T, fz, c.toList, rfl, hh, hl, fun j hj => by simp⟩
    | _ => cases hv
end
end Go.Fw

namespace Go.Proofs.YtmhglopmmpedfaaGreatDoor
open Go Go.Fw Go.ChangeShapes Go.WideShapes Go.ChangeAt Go.RowKit

theorem ownTryz : ownKnob Tryz.prog.godebug = none := by kernel_rfl
theorem laidOutTryz : laidOutB Tryz.prog = true := by kernel_rfl
def laidA : List (String × DataW Unit) := [("goodname/account.most", Rows.laid_goodname_account_most), ("goodname/term.bases", Rows.laid_goodname_term_bases)]
theorem doorA (os : Os) (args : Array Value) : laidMetH Tryz.prog laidA ((World.doorLaid Tryz.prog 400 os).forCall (fun _ _ => 0) ⟨#[], args, []⟩).memory :=
  laidMetH_of_parts3 (fuel := 8) (laidMet_of_run' 8 (by kernel_rfl) (by kernel_rfl)) (by kernel_rfl) (by kernel_rfl)
set_option maxRecDepth 100000 in
theorem gokA {W : World} (h : laidMetH Tryz.prog laidA W) : GOK GT (heapH W) := by
  obtain ⟨g, t, cs, fuel, p, hg, ht, hv, hd⟩ := h.funcs (n := "goodname/term.bases") (List.mem_cons_of_mem _ (List.mem_singleton.2 rfl))
  obtain rfl := Option.some.inj ((show Tryz.prog.globalNamed "goodname/term.bases" = some 1 by kernel_rfl).symm.trans hg)
  obtain rfl := Option.some.inj ((show (Tryz.prog.globals[1]?).map (·.type) = some 166 by kernel_rfl).symm.trans ht)
  have eb := bases_of (b1 := 103) (b2 := 103) (b3 := 103) (s1 := [111, 111, 100, 110, 97, 109, 101, 47, 116, 101, 114, 109, 46, 98, 97, 115, 101, 115, 36, 49]) (s2 := [111, 111, 100, 110, 97, 109, 101, 47, 116, 101, 114, 109, 46, 98, 97, 115, 101, 115, 36, 50]) (s3 := [111, 111, 100, 110, 97, 109, 101, 47, 116, 101, 114, 109, 46, 98, 97, 115, 101, 115, 36, 51]) hd (by kernel_rfl) (by kernel_rfl) (by kernel_rfl)
  have hp : laidMet Tryz.prog [("goodname/account.most", Rows.laid_goodname_account_most)] W := (show laidMet Tryz.prog _ W ∧ handlesMet Tryz.prog _ W from h).1
  obtain ⟨ps, ⟨g1, t1, cs1, f1, p1, q1, hg1, ht1, hv1, hd1, _, _⟩, _, _⟩ := hp
  obtain rfl := Option.some.inj ((show Tryz.prog.globalNamed "goodname/account.most" = some 2 by kernel_rfl).symm.trans hg1)
  obtain rfl := Option.some.inj ((show (Tryz.prog.globals[2]?).map (·.type) = some 182 by kernel_rfl).symm.trans ht1)
  have em := most_of hd1
  intro x hx
  simp only [GT, List.mem_cons, List.not_mem_nil, or_false] at hx
  rcases hx with rfl | rfl
  · exact fp_of hg hv (by rw [eb]; simp [ConcL, Conc])
  · exact fp_of hg1 hv1 (by rw [em]; simp [ConcL, Conc, ia])
set_option maxRecDepth 100000 in
theorem termLasts_lifted (os : Os) (started : os.Started) (H : Type) (enc : TypeId × Value → H) :
    ReturnsInHanded {} Tryz.checked os 3 .any (fun w args => (Rows.termLastsSpec.pre enc Tryz.prog Tryz.f3 [] false w args ∧ laidMetH Tryz.prog laidA w) ∧ sizedMet enc Tryz.prog Tryz.f3 (OpenSpec.ofChange Rows.termLastsSpec) false w args)
      (Rows.termLastsSpec.post enc Tryz.prog Tryz.f3 false true false false) := by
  refine returnsInHanded_of_change_and (C := Tryz.checked) (X := fun w _ => laidMetH Tryz.prog laidA w) (fun _ _ _ hh h => h.of_heap hh) ownTryz started (by kernel_rfl) Tryz.func3
    (ChangeSpec.witness_shaped (enc := enc) (C := Tryz.checked) (os := os) (X := fun w _ => laidMetH Tryz.prog laidA w) false (World.doorLaid Tryz.prog 400 os) #[.agg #[.slice none 0 0, .slice none 0 0], .slice none 0 0, .slice none 0 0, .int .i64 0, .int .i64 0] 8 rfl (World.shaped_of_RefB (by kernel_rfl) (by kernel_rfl)) (by kernel_rfl) (by kernel_rfl) (by kernel_rfl) (doorA os _)) ?_
  intro W base args ds gs before hval0 hW _ _ hL _
  have hval : ∀ (j : Nat) t v, Tryz.f3.params[j]? = some t → args[j]? = some v → Value.okWide Tryz.prog W .any base t v := hval0
  have hW' := hW
  obtain ⟨p, q, hA0, hV, rfl, _, _⟩ := hW
  have hA : DataW.TrodAll enc Tryz.prog W 0 (fun _ => true) true Tryz.f3.params.toList args.toList ds p := hA0
  rw [Tryz.params3] at hA hval
  obtain ⟨v0, v1, v2, v3, v4, d0, d1, d2, d3, d4, p0, p1, p2, p3, p4, rfl, rfl, rfl, h0, h1, h2, h3, h4⟩ := trodAll_five hA
  obtain ⟨rfl, rfl⟩ := trodVars_none hV
  obtain ⟨c, hc⟩ := arg_struct Tryz.underlying25 rd_code (fun z => ⟨_, rfl⟩) (hval 0 25 v0 rfl rfl) h0
  obtain ⟨hs, hh⟩ := arg_slice Tryz.underlying26 rd_homes (hval 1 26 v1 rfl rfl) h1
  obtain ⟨l, hl⟩ := arg_slice Tryz.underlying27 rd_reports (hval 2 27 v2 rfl rfl) h2
  obtain ⟨id, hi⟩ := arg_i64 Tryz.underlying3 (hval 3 3 v3 rfl rfl) h3
  obtain ⟨day, hd⟩ := arg_i64 Tryz.underlying3 (hval 4 3 v4 rfl rfl) h4
  refine ((termLasts_ok c hs l id day).2 W (heapH W) [v0, v1, v2, v3, v4] (fun b o h => h) (gokA hL) ⟨v0, _, rfl, hc, v1, _, rfl, hh, v2, _, rfl, hl, v3, _, rfl, hi, v4, _, rfl, hd, rfl⟩).mono fun e W' ⟨v, he, H', hO, hv⟩ => ?_
  obtain rfl : v = .bool true := hv
  exact ⟨_, he, post_true laidOutTryz (by kernel_rfl) rfl Tryz.underlying4 hW' rfl rfl (hO.below rfl)⟩
theorem termLasts_said : Rows.TermLastsSaid :=
  OpenClaim.holds_of_wide 3 Tryz.f3 rfl rfl rfl rfl rfl rfl rfl ⟨rfl, rfl, rfl, rfl, rfl⟩ rfl rfl rfl rfl rfl (by kernel_rfl) Tryz.func3 (by kernel_rfl)
    (of_decide_eq_true (by kernel_rfl)) (by unfold Func.isWrapper; first | (rw [if_pos (by decide +kernel)]; kernel_rfl) | (rw [if_neg (by decide +kernel)]; exact ⟨rfl, rfl⟩))
    (fun os started H enc _ => termLasts_lifted os started H enc)
theorem termLasts_card : Rows.TermLastsCardSaid :=
  Claim7.holds_tied_plain_at .later [] [.data, .funcs] true (true, "53110e4b57b046c407989a760f3b68e5e5121fb107135fe6330d729ce95e292d") false
    termLasts_said (fun _ h => by cases h) (by kernel_rfl) (fun _ h => by cases h) termLasts_row_tie rfl ⟨rfl, rfl⟩ (by kernel_rfl) rfl
    (fun f fn hf hfn => by
      obtain rfl : f = 3 := Option.some.inj ((show Tryz.prog.funcNamed "goodname/goodnamelaw04.TermLasts" = some 3 by kernel_rfl).symm.trans hf) |>.symm
      obtain rfl : fn = Tryz.f3 := (Option.some.inj (Tryz.func3.symm.trans hfn)).symm
      exact ⟨by kernel_rfl, fun j t ht => by
        rw [Tryz.params3] at ht
        have hm : t ∈ [25, 26, 27, 3, 3] := by simpa using Array.mem_of_getElem? ht
        have hall : ([25, 26, 27, 3, 3].all fun u => !Tryz.prog.wantsStandIn u) = true := by kernel_rfl
        exact (show Tryz.prog.wantsStandIn t = false by simpa using List.all_eq_true.1 hall t hm)⟩)
    (by kernel_rfl)
end Go.Proofs.YtmhglopmmpedfaaGreatDoor

