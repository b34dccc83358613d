/- Proved: for every input the law JugSteps returns true, and each argument reads afterwards as it read before. No condition. -/
import Derived.Below
import Derived.CallsIn
import Derived.ChangeSlices
import Derived.Test.YtcbhobkfffgfdaaRows
import Derived.WalkKit
import Derived.ProofKit
import Derived.OpenShut
import Derived.ShutString
import Derived.ChangeOld
import Derived.Carry
import Derived.Test.YtcbhobkfffgfdaaA04
set_option linter.unusedSimpArgs false
set_option linter.unusedVariables false
namespace Go.Ab.Jug
open Go.Ab.V
set_option maxRecDepth 100000
def itemS (n : Nat) (q f : List Int) (c : Bool) (a b : Int) : List (List VV) := if isS n c a b = true ∧ doS q f a b ≠ f then [[ag2 a b, .agg ((doS q f a b).map vi)]] else []
def rowS (n : Nat) (q f : List Int) (c : Bool) (a : Int) : Nat → List (List VV)
  | 0 => []
  | m + 1 => itemS n q f c a ((n : Int) - ((m + 1 : Nat) : Int)) ++ rowS n q f c a m
def allS (n : Nat) (q f : List Int) (c : Bool) : Nat → List (List VV)
  | 0 => []
  | k + 1 => rowS n q f c ((n : Int) - ((k + 1 : Nat) : Int)) (n + 1) ++ allS n q f c k
section
variable {n : Nat} {q0 q1 q2 q3 f0 f1 f2 f3 : Int} {c : Bool}
theorem eqV4 {a0 a1 a2 a3 b0 b1 b2 b3 : Int} : eqV (.cells [.int, .int, .int, .int]) (.agg [.p (.at (.int .i64 a0)), .p (.at (.int .i64 a1)), .p (.at (.int .i64 a2)), .p (.at (.int .i64 a3))]) (.agg [.p (.at (.int .i64 b0)), .p (.at (.int .i64 b1)), .p (.at (.int .i64 b2)), .p (.at (.int .i64 b3))]) = some (decide ([a0, a1, a2, a3] = [b0, b1, b2, b3])) := by
  show some ((a0 == b0) && ((a1 == b1) && ((a2 == b2) && ((a3 == b3) && true)))) = _
  congr 1
  rw [Bool.eq_iff_iff]
  simp
set_option maxHeartbeats 4000000 in
theorem steps1_ok (hn : n ≤ 4) (h0 : 0 ≤ f0 ∧ f0 ≤ q0 ∧ q0 ≤ 12) (h1 : 0 ≤ f1 ∧ f1 ≤ q1 ∧ q1 ≤ 12) (h2 : 0 ≤ f2 ∧ f2 ≤ q2 ∧ q2 ≤ 12) (h3 : 0 ≤ f3 ∧ f3 ≤ q3 ∧ q3 ≤ 12) :
    VIter cfg 65 [] [.p (.fp 0 [.fp 0 (jugQ n q0 q1 q2 q3 c)]), .p (.fp 0 [pi f0, pi f1, pi f2, pi f3])] false (allS n [q0, q1, q2, q3] [f0, f1, f2, f3] c (n + 1)) := by
  refine VIter.mk (fn := a65) rfl rfl rfl fun kk => ?_
  simp only [a65, inV, PT.set, List.nil_append, List.cons_append]
  (repeat (first | refine VC.seq ?_ | refine VC.block ?_ | refine VC.kill ?_ | refine VC.skip ?_ | refine VC.exit ?_ | refine VC.regA ?_ | refine VC.condT ?_ | refine VC.condF ?_))
  refine VC.loopG (fun (k : Nat) => ⟨inV [p0, p1, p2, p4] [.yl kk, .p (.fp 0 [.fp 0 (jugQ n q0 q1 q2 q3 c)]), .p (.fp 0 [pi f0, pi f1, pi f2, pi f3]), vi ((n : Int) - (k : Int))] .lf, .lf, [], some ⟨kk, allS n [q0, q1, q2, q3] [f0, f1, f2, f3] c k, true, false⟩⟩) (fun m k => m = k ∧ k ≤ n + 1) (x := n + 1) ?_ ⟨rfl, by omega⟩ ?_
  · (apply G.weak; constructor <;> simp (config := {decide := true}) only [PT.Le, inV, mkB, PT.set, VSt.kill, VSt.adopt, VSt.alloc, PT.filt, PT.map, List.map_cons, List.map_nil, noref, norefB, deadB, deadV, nos, nm, nmL, nmB, nmE, Pa.eqb, cond_true, cond_false, Bool.not_true, Bool.not_false, Bool.and_true, Bool.true_and, nmL_vi, flV_len, flP_len, flV_nm, flV_ok, flV_pv, flP_map, drop_flP, drop_flV, putC_flV, eqV2, eqV3, bneT, bneF, decide_true, decide_false, nmL_append, true_or, or_true, and_self, true_and, and_true, Option.some.injEq, reduceCtorEq, false_or, or_false, VV.p.injEq, PV.at.injEq, Value.int.injEq, sl1, vi, bl1, vb, nilV, pi, jugQ])
    all_goals omega
  rintro m k ⟨hm, hk⟩
  simp only [inV, PT.set, jugQ]
  (repeat (first | refine VC.seq ?_ | refine VC.block ?_ | refine VC.kill ?_ | refine VC.skip ?_ | refine VC.exit ?_ | refine VC.regA ?_ | refine VC.condT ?_ | refine VC.condF ?_))
  refine VC.condA ?_ ?_ <;> intro h <;> (simp only [decide_eq_true_eq, decide_eq_false_iff_not, bne_iff_ne, ne_eq, bne_eq_false_iff_eq, beq_iff_eq, beq_eq_false_iff_ne, Bool.not_eq_true', Bool.not_eq_false', Bool.and_eq_true, Bool.or_eq_true, Int.natCast_inj] at h)
  · obtain ⟨k, rfl⟩ : ∃ j, k = j + 1 := ⟨k - 1, by omega⟩
    (repeat (first | refine VC.seq ?_ | refine VC.block ?_ | refine VC.kill ?_ | refine VC.skip ?_ | refine VC.exit ?_ | refine VC.regA ?_ | refine VC.condT ?_ | refine VC.condF ?_))
    have hA : -1 ≤ (n : Int) - ((k + 1 : Nat) : Int) ∧ (n : Int) - ((k + 1 : Nat) : Int) < n := by omega
    have hall : allS n [q0, q1, q2, q3] [f0, f1, f2, f3] c (k + 1) = rowS n [q0, q1, q2, q3] [f0, f1, f2, f3] c ((n : Int) - ((k + 1 : Nat) : Int)) (n + 1) ++ allS n [q0, q1, q2, q3] [f0, f1, f2, f3] c k := rfl
    generalize hAa : (n : Int) - ((k + 1 : Nat) : Int) = A at *
    rw [hall]
    refine VC.loopG (fun (m : Nat) => ⟨inV [p0, p1, p2, p4, p5] [.yl kk, .p (.fp 0 [.fp 0 (jugQ n q0 q1 q2 q3 c)]), .p (.fp 0 [pi f0, pi f1, pi f2, pi f3]), vi A, vi ((n : Int) - (m : Int))] .lf, .lf, [], some ⟨kk, rowS n [q0, q1, q2, q3] [f0, f1, f2, f3] c A m ++ allS n [q0, q1, q2, q3] [f0, f1, f2, f3] c k, true, false⟩⟩) (fun m' m => m' = m ∧ m ≤ n + 1) (x := n + 1) ?_ ⟨rfl, by omega⟩ ?_
    · (apply G.weak; constructor <;> simp (config := {decide := true}) only [PT.Le, inV, mkB, PT.set, VSt.kill, VSt.adopt, VSt.alloc, PT.filt, PT.map, List.map_cons, List.map_nil, noref, norefB, deadB, deadV, nos, nm, nmL, nmB, nmE, Pa.eqb, cond_true, cond_false, Bool.not_true, Bool.not_false, Bool.and_true, Bool.true_and, nmL_vi, flV_len, flP_len, flV_nm, flV_ok, flV_pv, flP_map, drop_flP, drop_flV, putC_flV, eqV2, eqV3, bneT, bneF, decide_true, decide_false, nmL_append, true_or, or_true, and_self, true_and, and_true, Option.some.injEq, reduceCtorEq, false_or, or_false, VV.p.injEq, PV.at.injEq, Value.int.injEq, sl1, vi, bl1, vb, nilV, pi, jugQ])
      all_goals omega
    rintro m' m ⟨hm', hmm⟩
    simp only [inV, PT.set, jugQ]
    (repeat (first | refine VC.seq ?_ | refine VC.block ?_ | refine VC.kill ?_ | refine VC.skip ?_ | refine VC.exit ?_ | refine VC.regA ?_ | refine VC.condT ?_ | refine VC.condF ?_))
    refine VC.condA ?_ ?_ <;> intro h' <;> (simp only [decide_eq_true_eq, decide_eq_false_iff_not, bne_iff_ne, ne_eq, bne_eq_false_iff_eq, beq_iff_eq, beq_eq_false_iff_ne, Bool.not_eq_true', Bool.not_eq_false', Bool.and_eq_true, Bool.or_eq_true, Int.natCast_inj] at h')
    · obtain ⟨m, rfl⟩ : ∃ j, m = j + 1 := ⟨m - 1, by omega⟩
      have hB : -1 ≤ (n : Int) - ((m + 1 : Nat) : Int) ∧ (n : Int) - ((m + 1 : Nat) : Int) < n := by omega
      have hrow : rowS n [q0, q1, q2, q3] [f0, f1, f2, f3] c A (m + 1) = itemS n [q0, q1, q2, q3] [f0, f1, f2, f3] c A ((n : Int) - ((m + 1 : Nat) : Int)) ++ rowS n [q0, q1, q2, q3] [f0, f1, f2, f3] c A m := rfl
      rw [hrow]
      generalize hBb : (n : Int) - ((m + 1 : Nat) : Int) = B at *
      have k1 := is_ok (n := n) (q0 := q0) (q1 := q1) (q2 := q2) (q3 := q3) (c := c) (a := A) (b := B) (by omega) (by omega) hn
      simp only [jugQ, ag2] at k1
      cases hs : isS n c A B with
      | false =>
        rw [hs] at k1
        have : itemS n [q0, q1, q2, q3] [f0, f1, f2, f3] c A B = [] := by simp [itemS, hs]
        rw [this]
        (repeat (first | refine VC.seq ?_ | refine VC.block ?_ | refine VC.kill ?_ | refine VC.skip ?_ | refine VC.exit ?_ | refine VC.regA ?_ | refine VC.condT ?_ | refine VC.condF ?_))
        refine VC.regCA ?_
        refine VO.moreA ?_
        refine VO.call0A (no_orc 61 (by decide)) k1 ?_
        refine VO.endA ?_
        (repeat (first | refine VC.seq ?_ | refine VC.block ?_ | refine VC.kill ?_ | refine VC.skip ?_ | refine VC.exit ?_ | refine VC.regA ?_ | refine VC.condT ?_ | refine VC.condF ?_))
        refine ⟨_, m, ?_, ⟨rfl, by omega⟩, ?_⟩
        · omega
        · (apply G.weak; constructor <;> simp (config := {decide := true}) only [PT.Le, inV, mkB, PT.set, VSt.kill, VSt.adopt, VSt.alloc, PT.filt, PT.map, List.map_cons, List.map_nil, noref, norefB, deadB, deadV, nos, nm, nmL, nmB, nmE, Pa.eqb, cond_true, cond_false, Bool.not_true, Bool.not_false, Bool.and_true, Bool.true_and, nmL_vi, flV_len, flP_len, flV_nm, flV_ok, flV_pv, flP_map, drop_flP, drop_flV, putC_flV, eqV2, eqV3, bneT, bneF, decide_true, decide_false, nmL_append, true_or, or_true, and_self, true_and, and_true, Option.some.injEq, reduceCtorEq, false_or, or_false, VV.p.injEq, PV.at.injEq, Value.int.injEq, sl1, vi, bl1, vb, nilV, pi, jugQ])
          all_goals omega
      | true =>
        rw [hs] at k1
        have hab : A ≠ B := by intro e; simp [isS, e] at hs
        have k2 := do_ok (n := n) (c := c) (a := A) (b := B) (by omega) (by omega) hab h0 h1 h2 h3
        obtain ⟨g0, g1, g2, g3, hg⟩ : ∃ g0 g1 g2 g3, doS [q0, q1, q2, q3] [f0, f1, f2, f3] A B = [g0, g1, g2, g3] := by
          have hl : (doS [q0, q1, q2, q3] [f0, f1, f2, f3] A B).length = 4 := by unfold doS; split <;> (try split) <;> simp
          generalize doS [q0, q1, q2, q3] [f0, f1, f2, f3] A B = P at hl
          rcases P with _ | ⟨a, _ | ⟨b, _ | ⟨d, _ | ⟨e, _ | ⟨f, r⟩⟩⟩⟩⟩ <;> first | exact ⟨_, _, _, _, rfl⟩ | simp at hl
        have hit : itemS n [q0, q1, q2, q3] [f0, f1, f2, f3] c A B = if [g0, g1, g2, g3] ≠ [f0, f1, f2, f3] then [[.agg [vi A, vi B], .agg [vi g0, vi g1, vi g2, vi g3]]] else [] := by
          simp only [itemS, hs, hg, true_and]; rfl
        rw [hg] at k2
        simp only [jugQ, ag2, ag4, List.map_cons, List.map_nil] at k2
        rw [hit]
        (repeat (first | refine VC.seq ?_ | refine VC.block ?_ | refine VC.kill ?_ | refine VC.skip ?_ | refine VC.exit ?_ | refine VC.regA ?_ | refine VC.condT ?_ | refine VC.condF ?_))
        refine VC.regCA ?_
        refine VO.moreA ?_
        refine VO.call0A (no_orc 61 (by decide)) k1 ?_
        refine VO.endA ?_
        (repeat (first | refine VC.seq ?_ | refine VC.block ?_ | refine VC.kill ?_ | refine VC.skip ?_ | refine VC.exit ?_ | refine VC.regA ?_ | refine VC.condT ?_ | refine VC.condF ?_))
        refine VC.regCA ?_
        refine VO.moreA ?_
        refine VO.call0A (no_orc 62 (by decide)) k2 ?_
        refine VO.endA ?_
        (repeat (first | refine VC.seq ?_ | refine VC.block ?_ | refine VC.kill ?_ | refine VC.skip ?_ | refine VC.exit ?_ | refine VC.regA ?_ | refine VC.condT ?_ | refine VC.condF ?_))
        have bT : (true != true) = false := rfl
        have bF : (false != true) = true := rfl
        by_cases hd : [g0, g1, g2, g3] = [f0, f1, f2, f3]
        · have e4 := eqV4 (a0 := g0) (a1 := g1) (a2 := g2) (a3 := g3) (b0 := f0) (b1 := f1) (b2 := f2) (b3 := f3)
          rw [decide_eq_true hd] at e4
          rw [if_neg (fun h => h hd)]
          apply VC.regU
          · (simp (config := {decide := false, maxSteps := 1000000}) (disch := omega) only [vev_call, putC_c0, putC_n0, putC_cs, ble0, List.getElem?_cons_zero, List.getElem?_cons_succ, runU, isCall, wantV, vev, evV, ofVal, ofAtom, atomB, cond_true, cond_false, PT.get, PT.set, PT.filt, PT.map, Option.getD_some, Option.getD_none, ret1V, ret1X, v_ld, v_ias, v_iad, v_fad, v_slsl, v_slarr, v_st, v_app, v_cpy, v_len, v_look, v_mset, elsV, partV, newV, free, atV, atI, atL, toVal, cellsV, okV, VSt.put, VSt.kill, VSt.alloc, VSt.frz, VSt.adopt, noref, norefB, deadB, deadV, nos, nm, nmL, nmB, nmE, Pa.eqb, Bool.not_false, Bool.not_true, Bool.and_true, Bool.true_and, Bool.false_and, Bool.and_false, bin, intOps, intBin, cvt, un, goInt, bndsV, bndV, Option.map_some, Option.map_none, List.map_cons, List.map_nil, Int.toNat_natCast, Nat.mul_one, Nat.zero_add, beq_true, beq_false, beq_self_eq_true, List.length_map, List.length_cons, List.length_nil, List.length_append, fillV, pEvV, repsV, List.append_nil, List.nil_append, if_pos, if_neg, reduceIte, List.getElem?_map, List.getElem?_drop, Nat.add_zero, List.getElem?_eq_getElem, Go.IntWalk.i64_in, wrap_u64, tmod_pos, eq_self, true_and, and_true, and_self, List.all_cons, List.all_nil, nmL_vi, flV_len, flP_len, flV_nm, flV_ok, flV_pv, flP_map, drop_flP, drop_flV, putC_flV, eqV2, eqV3, bneT, bneF, decide_true, decide_false, nmL_append, okL_vi, toPVs_vi, toPVs, toPV, frzV, frzL, frzB, resVV, vi, vb, nilV, sl1, bl1, pi, foldV, max2, min2, max_eq, min_eq, Int.tdiv_eq_ediv_of_nonneg, Int.cast_ofNat_Int, Option.isSome_none, Option.isSome_some, Option.isNone_none, Option.isNone_some, and_false, false_and, sl2, sl1P, slP, min_cast, take_map_pi, map_pi, Nat.sub_zero, Nat.zero_mul, List.length_take, decide_eq_true, decide_eq_false, Bool.true_eq_false, Bool.false_eq_true, beqT, beqF, ibeq, ibne, List.take_zero, List.take_succ_cons, List.drop_zero, List.drop_succ_cons, List.drop_nil, List.take_nil, List.cons_append, Bool.not_true, Bool.not_false, e4, bT, bF])
            rfl
          (repeat (first | refine VC.seq ?_ | refine VC.block ?_ | refine VC.kill ?_ | refine VC.skip ?_ | refine VC.exit ?_ | refine VC.regA ?_ | refine VC.condT ?_ | refine VC.condF ?_))
          refine ⟨_, m, ?_, ⟨rfl, by omega⟩, ?_⟩
          · omega
          · (apply G.weak; constructor <;> simp (config := {decide := true}) only [PT.Le, inV, mkB, PT.set, VSt.kill, VSt.adopt, VSt.alloc, PT.filt, PT.map, List.map_cons, List.map_nil, noref, norefB, deadB, deadV, nos, nm, nmL, nmB, nmE, Pa.eqb, cond_true, cond_false, Bool.not_true, Bool.not_false, Bool.and_true, Bool.true_and, nmL_vi, flV_len, flP_len, flV_nm, flV_ok, flV_pv, flP_map, drop_flP, drop_flV, putC_flV, eqV2, eqV3, bneT, bneF, decide_true, decide_false, nmL_append, true_or, or_true, and_self, true_and, and_true, Option.some.injEq, reduceCtorEq, false_or, or_false, VV.p.injEq, PV.at.injEq, Value.int.injEq, sl1, vi, bl1, vb, nilV, pi, jugQ])
            all_goals omega
        · have e4 := eqV4 (a0 := g0) (a1 := g1) (a2 := g2) (a3 := g3) (b0 := f0) (b1 := f1) (b2 := f2) (b3 := f3)
          rw [decide_eq_false hd] at e4
          rw [if_pos hd]
          apply VC.regC
          · (simp (config := {decide := false, maxSteps := 1000000}) (disch := omega) only [vev_call, putC_c0, putC_n0, putC_cs, ble0, List.getElem?_cons_zero, List.getElem?_cons_succ, runU, isCall, wantV, vev, evV, ofVal, ofAtom, atomB, cond_true, cond_false, PT.get, PT.set, PT.filt, PT.map, Option.getD_some, Option.getD_none, ret1V, ret1X, v_ld, v_ias, v_iad, v_fad, v_slsl, v_slarr, v_st, v_app, v_cpy, v_len, v_look, v_mset, elsV, partV, newV, free, atV, atI, atL, toVal, cellsV, okV, VSt.put, VSt.kill, VSt.alloc, VSt.frz, VSt.adopt, noref, norefB, deadB, deadV, nos, nm, nmL, nmB, nmE, Pa.eqb, Bool.not_false, Bool.not_true, Bool.and_true, Bool.true_and, Bool.false_and, Bool.and_false, bin, intOps, intBin, cvt, un, goInt, bndsV, bndV, Option.map_some, Option.map_none, List.map_cons, List.map_nil, Int.toNat_natCast, Nat.mul_one, Nat.zero_add, beq_true, beq_false, beq_self_eq_true, List.length_map, List.length_cons, List.length_nil, List.length_append, fillV, pEvV, repsV, List.append_nil, List.nil_append, if_pos, if_neg, reduceIte, List.getElem?_map, List.getElem?_drop, Nat.add_zero, List.getElem?_eq_getElem, Go.IntWalk.i64_in, wrap_u64, tmod_pos, eq_self, true_and, and_true, and_self, List.all_cons, List.all_nil, nmL_vi, flV_len, flP_len, flV_nm, flV_ok, flV_pv, flP_map, drop_flP, drop_flV, putC_flV, eqV2, eqV3, bneT, bneF, decide_true, decide_false, nmL_append, okL_vi, toPVs_vi, toPVs, toPV, frzV, frzL, frzB, resVV, vi, vb, nilV, sl1, bl1, pi, foldV, max2, min2, max_eq, min_eq, Int.tdiv_eq_ediv_of_nonneg, Int.cast_ofNat_Int, Option.isSome_none, Option.isSome_some, Option.isNone_none, Option.isNone_some, and_false, false_and, sl2, sl1P, slP, min_cast, take_map_pi, map_pi, Nat.sub_zero, Nat.zero_mul, List.length_take, decide_eq_true, decide_eq_false, Bool.true_eq_false, Bool.false_eq_true, beqT, beqF, ibeq, ibne, List.take_zero, List.take_succ_cons, List.drop_zero, List.drop_succ_cons, List.drop_nil, List.take_nil, List.cons_append, Bool.not_true, Bool.not_false, e4, bT, bF])
            rfl
          refine VO.yieldA fun b _ => ?_
          cases b with
          | false =>
            refine VO.endA ?_
            (repeat (first | refine VC.seq ?_ | refine VC.block ?_ | refine VC.kill ?_ | refine VC.skip ?_ | refine VC.exit ?_ | refine VC.regA ?_ | refine VC.condT ?_ | refine VC.condF ?_))
            exact VC.ret ⟨rfl, _, _, rfl, .inl rfl⟩
          | true =>
            refine VO.endA ?_
            (repeat (first | refine VC.seq ?_ | refine VC.block ?_ | refine VC.kill ?_ | refine VC.skip ?_ | refine VC.exit ?_ | refine VC.regA ?_ | refine VC.condT ?_ | refine VC.condF ?_))
            refine ⟨_, m, ?_, ⟨rfl, by omega⟩, ?_⟩
            · omega
            · (apply G.weak; constructor <;> simp (config := {decide := true}) only [PT.Le, inV, mkB, PT.set, VSt.kill, VSt.adopt, VSt.alloc, PT.filt, PT.map, List.map_cons, List.map_nil, noref, norefB, deadB, deadV, nos, nm, nmL, nmB, nmE, Pa.eqb, cond_true, cond_false, Bool.not_true, Bool.not_false, Bool.and_true, Bool.true_and, nmL_vi, flV_len, flP_len, flV_nm, flV_ok, flV_pv, flP_map, drop_flP, drop_flV, putC_flV, eqV2, eqV3, bneT, bneF, decide_true, decide_false, nmL_append, true_or, or_true, and_self, true_and, and_true, Option.some.injEq, reduceCtorEq, false_or, or_false, VV.p.injEq, PV.at.injEq, Value.int.injEq, sl1, vi, bl1, vb, nilV, pi, jugQ])
              all_goals omega
    · have : m = 0 := by omega
      subst this
      simp only [rowS, List.nil_append]
      (repeat (first | refine VC.seq ?_ | refine VC.block ?_ | refine VC.kill ?_ | refine VC.skip ?_ | refine VC.exit ?_ | refine VC.regA ?_ | refine VC.condT ?_ | refine VC.condF ?_))
      refine ⟨_, k, ?_, ⟨rfl, by omega⟩, ?_⟩
      · omega
      · (apply G.weak; constructor <;> simp (config := {decide := true}) only [PT.Le, inV, mkB, PT.set, VSt.kill, VSt.adopt, VSt.alloc, PT.filt, PT.map, List.map_cons, List.map_nil, noref, norefB, deadB, deadV, nos, nm, nmL, nmB, nmE, Pa.eqb, cond_true, cond_false, Bool.not_true, Bool.not_false, Bool.and_true, Bool.true_and, nmL_vi, flV_len, flP_len, flV_nm, flV_ok, flV_pv, flP_map, drop_flP, drop_flV, putC_flV, eqV2, eqV3, bneT, bneF, decide_true, decide_false, nmL_append, true_or, or_true, and_self, true_and, and_true, Option.some.injEq, reduceCtorEq, false_or, or_false, VV.p.injEq, PV.at.injEq, Value.int.injEq, sl1, vi, bl1, vb, nilV, pi, jugQ])
        all_goals omega
  · have : k = 0 := by omega
    subst this
    (repeat (first | refine VC.seq ?_ | refine VC.block ?_ | refine VC.kill ?_ | refine VC.skip ?_ | refine VC.exit ?_ | refine VC.regA ?_ | refine VC.condT ?_ | refine VC.condF ?_))
    exact ⟨rfl, _, _, rfl, .inr ⟨rfl, trivial⟩⟩
end
end Go.Ab.Jug

namespace Go.Ab.Jug
open Go.Ab.V
set_option maxRecDepth 100000
section
variable {n : Nat} {q0 q1 q2 q3 f0 f1 f2 f3 : Int} {c : Bool}
theorem steps_ok : VCall cfg 47 [.p (.fp 0 (jugQ n q0 q1 q2 q3 c)), ag4 f0 f1 f2 f3] [] [] (.clos 65 [] [.p (.fp 0 [.fp 0 (jugQ n q0 q1 q2 q3 c)]), .p (.fp 0 [pi f0, pi f1, pi f2, pi f3])]) [] := by
  (refine VCall.mk (fn := a47) rfl rfl rfl ?_; simp only [a47, inV, mkB, nmsL, PT.set])
  simp only [ag4, jugQ]
  (repeat (first | refine VC.seq ?_ | refine VC.block ?_ | refine VC.kill ?_ | refine VC.skip ?_ | refine VC.exit ?_ | refine VC.regA ?_ | refine VC.condT ?_ | refine VC.condF ?_))
  exact VC.ret (Fin.frzA p2 (hb := rfl) (hc := rfl) (Fin.frzA p3 (hb := rfl) (hc := rfl) (Fin.A rfl)))
end
end Go.Ab.Jug

namespace Go.Ab.Jug
open Go.Ab.V
set_option maxRecDepth 100000
theorem equal_ok (a b : List Int) (hab : a.length = b.length) (hl : a.length ≤ 9223372036854775807) : VCall cfg 50 [sl1 a, sl1 b] [] [] (vb (decide (a = b))) [] := by
  generalize hr : decide (a = b) = r
  (refine VCall.mk (fn := a50) rfl rfl rfl ?_; simp only [a50, inV, mkB, nmsL, PT.set])
  (repeat (first | refine VC.seq ?_ | refine VC.block ?_ | refine VC.kill ?_ | refine VC.skip ?_ | refine VC.exit ?_ | refine VC.regA ?_ | refine VC.condT ?_ | refine VC.condF ?_))
  refine VC.loopG (fun (i : Nat) => ⟨inV [p0, p1, p5] [sl1 a, sl1 b, vi i] .lf, .lf, [], none⟩) (fun n i => n = a.length - i ∧ i ≤ a.length ∧ ∀ (k : Nat) (h : k < a.length) (h' : k < b.length), k < i → a[k] = b[k]) (x := 0) ?_ ⟨rfl, by omega, fun k _ _ h => by omega⟩ ?_
  · (apply G.weak; constructor <;> simp (config := {decide := true}) only [PT.Le, inV, mkB, PT.set, VSt.kill, VSt.adopt, VSt.alloc, PT.filt, PT.map, List.map_cons, List.map_nil, noref, norefB, deadB, deadV, nos, nm, nmL, nmB, nmE, Pa.eqb, cond_true, cond_false, Bool.not_true, Bool.not_false, Bool.and_true, Bool.true_and, nmL_vi, flV_len, flP_len, flV_nm, flV_ok, flV_pv, flP_map, drop_flP, drop_flV, putC_flV, eqV2, eqV3, bneT, bneF, decide_true, decide_false, nmL_append, true_or, or_true, and_self, true_and, and_true, Option.some.injEq, reduceCtorEq, false_or, or_false, VV.p.injEq, PV.at.injEq, Value.int.injEq, sl1, vi, bl1, vb, nilV])
  rintro n i ⟨hn, hi, hx⟩
  simp only [inV, PT.set]
  (repeat (first | refine VC.seq ?_ | refine VC.block ?_ | refine VC.kill ?_ | refine VC.skip ?_ | refine VC.exit ?_ | refine VC.regA ?_ | refine VC.condT ?_ | refine VC.condF ?_))
  refine VC.condA ?_ ?_ <;> intro h <;> (simp only [decide_eq_true_eq, decide_eq_false_iff_not, bne_iff_ne, ne_eq, bne_eq_false_iff_eq, beq_iff_eq, beq_eq_false_iff_ne, Bool.not_eq_true', Bool.not_eq_false', Bool.and_eq_true, Bool.or_eq_true, Int.natCast_inj] at h)
  · have h : i < a.length := by omega
    have h' : i < b.length := by omega
    by_cases h1 : a[i] = b[i]
    · have h2 : ¬(a[i] ≠ b[i]) := fun h => h h1
      (repeat (first | refine VC.seq ?_ | refine VC.block ?_ | refine VC.kill ?_ | refine VC.skip ?_ | refine VC.exit ?_ | refine VC.regA ?_ | refine VC.condT ?_ | refine VC.condF ?_))
      refine ⟨_, i + 1, ?_, ⟨rfl, by omega, ?_⟩, ?_⟩
      · omega
      · intro k hk hk' hlt
        rcases Nat.lt_or_ge k i with h3 | h3
        · exact hx k hk hk' h3
        · have : k = i := by omega
          subst this; exact h1
      · (apply G.weak; constructor <;> simp (config := {decide := true}) only [PT.Le, inV, mkB, PT.set, VSt.kill, VSt.adopt, VSt.alloc, PT.filt, PT.map, List.map_cons, List.map_nil, noref, norefB, deadB, deadV, nos, nm, nmL, nmB, nmE, Pa.eqb, cond_true, cond_false, Bool.not_true, Bool.not_false, Bool.and_true, Bool.true_and, nmL_vi, flV_len, flP_len, flV_nm, flV_ok, flV_pv, flP_map, drop_flP, drop_flV, putC_flV, eqV2, eqV3, bneT, bneF, decide_true, decide_false, nmL_append, true_or, or_true, and_self, true_and, and_true, Option.some.injEq, reduceCtorEq, false_or, or_false, VV.p.injEq, PV.at.injEq, Value.int.injEq, sl1, vi, bl1, vb, nilV]); rfl
    · (repeat (first | refine VC.seq ?_ | refine VC.block ?_ | refine VC.kill ?_ | refine VC.skip ?_ | refine VC.exit ?_ | refine VC.regA ?_ | refine VC.condT ?_ | refine VC.condF ?_))
      obtain rfl : false = r := by rw [← hr, eq_comm, decide_eq_false_iff_not]; intro e; subst e; exact h1 rfl
      exact VC.ret (Fin.A rfl)
  · (repeat (first | refine VC.seq ?_ | refine VC.block ?_ | refine VC.kill ?_ | refine VC.skip ?_ | refine VC.exit ?_ | refine VC.regA ?_ | refine VC.condT ?_ | refine VC.condF ?_))
    obtain rfl : true = r := by rw [← hr, eq_comm, decide_eq_true_iff]; exact List.ext_getElem hab (fun k hk hk' => hx k hk hk' (by omega))
    exact VC.ret (Fin.A rfl)
end Go.Ab.Jug

namespace Go.Ab.Jug
open Go.Ab.V
set_option maxRecDepth 100000
theorem putC_map (l : List Int) (i : Nat) (v : Int) (h : i < l.length) : putC (l.map vi) i [vi v] = (l.set i v).map vi := by
  unfold putC
  rw [List.set_eq_take_append_cons_drop, if_pos h, List.map_append, List.map_cons, List.map_take, List.map_drop]
  rfl
/-- The reference's step. -/
def stepR (x f : List Int) (a b : Int) : List Int :=
  if a = -1 then f.set b.toNat (atQ x b) else if b = -1 then f.set a.toNat 0
  else (f.set a.toNat (atQ f a - min (atQ f a) (atQ x b - atQ f b))).set b.toNat (atQ f b + min (atQ f a) (atQ x b - atQ f b))
def isR (n : Nat) (a b : Int) : Bool := inR n a && inR n b && decide (a ≠ b)
set_option maxHeartbeats 4000000 in
theorem stepR_ok (x f : List Int) (a b : Int) (hx : x.length ≤ 4) (hf : f.length = x.length) (ha : -9223372036854775808 ≤ a ∧ a ≤ 9223372036854775807) (hb : -9223372036854775808 ≤ b ∧ b ≤ 9223372036854775807)
    (hq : ∀ i ∈ x, 1 ≤ i ∧ i ≤ 12) (hv : ∀ (k : Nat) (h : k < f.length) (h' : k < x.length), 0 ≤ f[k] ∧ f[k] ≤ x[k]) (h0 : 1 ≤ x.length) :
    VCall cfg 49 [sl1 x, sl1 f, ag2 a b] [] [] (.tup [sl1 (if isR x.length a b then stepR x f a b else f), vb (isR x.length a b)]) [] := by
  (refine VCall.mk (fn := a49) rfl rfl rfl ?_; simp only [a49, inV, mkB, nmsL, PT.set])
  simp only [ag2]
  cases hr : isR x.length a b with
  | false =>
    by_cases h1 : a < -1
    · (repeat (first | refine VC.seq ?_ | refine VC.block ?_ | refine VC.kill ?_ | refine VC.skip ?_ | refine VC.exit ?_ | refine VC.regA ?_ | refine VC.condT ?_ | refine VC.condF ?_))
      exact VC.ret (Fin.A rfl)
    by_cases h2 : (x.length : Int) ≤ a
    · (repeat (first | refine VC.seq ?_ | refine VC.block ?_ | refine VC.kill ?_ | refine VC.skip ?_ | refine VC.exit ?_ | refine VC.regA ?_ | refine VC.condT ?_ | refine VC.condF ?_))
      exact VC.ret (Fin.A rfl)
    by_cases h3 : b < -1
    · (repeat (first | refine VC.seq ?_ | refine VC.block ?_ | refine VC.kill ?_ | refine VC.skip ?_ | refine VC.exit ?_ | refine VC.regA ?_ | refine VC.condT ?_ | refine VC.condF ?_))
      exact VC.ret (Fin.A rfl)
    by_cases h4 : (x.length : Int) ≤ b
    · (repeat (first | refine VC.seq ?_ | refine VC.block ?_ | refine VC.kill ?_ | refine VC.skip ?_ | refine VC.exit ?_ | refine VC.regA ?_ | refine VC.condT ?_ | refine VC.condF ?_))
      exact VC.ret (Fin.A rfl)
    by_cases h5 : a = b
    · (repeat (first | refine VC.seq ?_ | refine VC.block ?_ | refine VC.kill ?_ | refine VC.skip ?_ | refine VC.exit ?_ | refine VC.regA ?_ | refine VC.condT ?_ | refine VC.condF ?_))
      exact VC.ret (Fin.A rfl)
    · exfalso
      have g1 : inR x.length a = true := by rw [inR, decide_eq_true_iff]; omega
      have g2 : inR x.length b = true := by rw [inR, decide_eq_true_iff]; omega
      simp [isR, g1, g2, h5] at hr
  | true =>
    have hA : -1 ≤ a ∧ a < x.length := by simp only [isR, inR, Bool.and_eq_true, decide_eq_true_eq] at hr; omega
    have hB : -1 ≤ b ∧ b < x.length := by simp only [isR, inR, Bool.and_eq_true, decide_eq_true_eq] at hr; omega
    have hab : a ≠ b := by simp only [isR, inR, Bool.and_eq_true, decide_eq_true_eq] at hr; exact hr.2
    have eq_at : ∀ (l : List Int) (i : Nat) (h : i < l.length), l.getD i 0 = l[i] := fun l i h => by rw [List.getD_eq_getElem?_getD, List.getElem?_eq_getElem h]; rfl
    by_cases h1 : a = -1
    · have hb' : b.toNat < x.length := by omega
      have hb'' : b.toNat < f.length := by omega
      have hp := putC_map f b.toNat x[b.toNat] hb''
      have hst : stepR x f a b = f.set b.toNat x[b.toNat] := by rw [stepR, if_pos h1, atQ, eq_at x _ hb']
      simp only [vi] at hp
      (repeat (first | refine VC.seq ?_ | refine VC.block ?_ | refine VC.kill ?_ | refine VC.skip ?_ | refine VC.exit ?_ | refine VC.regA ?_ | refine VC.condT ?_ | refine VC.condF ?_))
      rw [hp, hst]
      refine VC.ret (Fin.frzA p43 (hb := rfl) (hc := toPVs_map _) (Fin.A ?_))
      rw [if_pos rfl, sl1, List.length_set]; rfl
    by_cases h2 : b = -1
    · have ha'' : a.toNat < f.length := by omega
      have hp := putC_map f a.toNat 0 ha''
      have hst : stepR x f a b = f.set a.toNat 0 := by rw [stepR, if_neg h1, if_pos h2]
      simp only [vi] at hp
      (repeat (first | refine VC.seq ?_ | refine VC.block ?_ | refine VC.kill ?_ | refine VC.skip ?_ | refine VC.exit ?_ | refine VC.regA ?_ | refine VC.condT ?_ | refine VC.condF ?_))
      rw [hp, hst]
      refine VC.ret (Fin.frzA p43 (hb := rfl) (hc := toPVs_map _) (Fin.A ?_))
      rw [if_pos rfl, sl1, List.length_set]; rfl
    · have ha' : a.toNat < x.length := by omega
      have ha'' : a.toNat < f.length := by omega
      have hb' : b.toNat < x.length := by omega
      have hb'' : b.toNat < f.length := by omega
      have v1 := hv _ ha'' ha'
      have v2 := hv _ hb'' hb'
      have v3 := hq _ (List.getElem_mem ha')
      have v4 := hq _ (List.getElem_mem hb')
      have hst : stepR x f a b = (f.set a.toNat (f[a.toNat] - min f[a.toNat] (x[b.toNat] - f[b.toNat]))).set b.toNat (f[b.toNat] + min f[a.toNat] (x[b.toNat] - f[b.toNat])) := by
        rw [stepR, if_neg h1, if_neg h2]; simp only [atQ, eq_at x _ hb', eq_at f _ ha'', eq_at f _ hb'']
      have hp := putC_map f a.toNat (f[a.toNat] - min f[a.toNat] (x[b.toNat] - f[b.toNat])) ha''
      have hp2 := putC_map (f.set a.toNat (f[a.toNat] - min f[a.toNat] (x[b.toNat] - f[b.toNat]))) b.toNat (f[b.toNat] + min f[a.toNat] (x[b.toNat] - f[b.toNat])) (by rw [List.length_set]; exact hb'')
      simp only [vi] at hp hp2
      have hls : (f.set a.toNat (f[a.toNat] - min f[a.toNat] (x[b.toNat] - f[b.toNat]))).length = f.length := List.length_set
      (repeat (first | refine VC.seq ?_ | refine VC.block ?_ | refine VC.kill ?_ | refine VC.skip ?_ | refine VC.exit ?_ | refine VC.regA ?_ | refine VC.condT ?_ | refine VC.condF ?_))
      rw [hp]
      (repeat (first | refine VC.seq ?_ | refine VC.block ?_ | refine VC.kill ?_ | refine VC.skip ?_ | refine VC.exit ?_ | refine VC.regA ?_ | refine VC.condT ?_ | refine VC.condF ?_))
      rw [hp2, hst]
      refine VC.ret (Fin.frzA p43 (hb := rfl) (hc := toPVs_map _) (Fin.A ?_))
      rw [if_pos rfl, sl1, List.length_set, List.length_set]; rfl
end Go.Ab.Jug

namespace Go.Ab.Jug
open Go.Ab.V
set_option maxRecDepth 100000
def fillE (x l : List Int) (i : Nat) : Int := if i < l.length then l.getD i 0 % 18446744073709551616 % (x.getD i 0 + 1) else 0
def fillF (x l : List Int) : List Int := (List.range x.length).map (fillE x l)
theorem range_map_succ (f : Nat → Int) (i : Nat) : (List.range (i + 1)).map f = (List.range i).map f ++ [f i] := by rw [List.range_succ, List.map_append]; rfl
set_option maxHeartbeats 4000000 in
theorem filled_ok (x l : List Int) (hx : 1 ≤ x.length ∧ x.length ≤ 4) (hq : ∀ i ∈ x, 1 ≤ i ∧ i ≤ 12) (hl : l.length ≤ 9223372036854775807) : VCall cfg 17 [sl1 x, sl1 l] [] [] (sl1 (fillF x l)) [] := by
  (refine VCall.mk (fn := a17) rfl rfl rfl ?_; simp only [a17, inV, mkB, nmsL, PT.set])
  (repeat (first | refine VC.seq ?_ | refine VC.block ?_ | refine VC.kill ?_ | refine VC.skip ?_ | refine VC.exit ?_ | refine VC.regA ?_ | refine VC.condT ?_ | refine VC.condF ?_))
  refine VC.loopG (fun (i : Nat) => ⟨inV [p0, p1, p5, p6] [sl1 x, sl1 l, .os 1 p34 i, vi i] .lf, mkB [(p34, bl1 ((List.range i).map (fillE x l)))] .lf, [], none⟩) (fun n i => n = x.length - i ∧ i ≤ x.length) (x := 0) ?_ ⟨rfl, by omega⟩ ?_
  · refine G.adoptA (p := p5) 1 p34 ?_
    (apply G.weak; constructor <;> simp (config := {decide := true}) only [PT.Le, inV, mkB, PT.set, VSt.kill, VSt.adopt, VSt.alloc, PT.filt, PT.map, List.map_cons, List.map_nil, noref, norefB, deadB, deadV, nos, nm, nmL, nmB, nmE, Pa.eqb, cond_true, cond_false, Bool.not_true, Bool.not_false, Bool.and_true, Bool.true_and, nmL_vi, flV_len, flP_len, flV_nm, flV_ok, flV_pv, flP_map, drop_flP, drop_flV, putC_flV, eqV2, eqV3, bneT, bneF, decide_true, decide_false, nmL_append, true_or, or_true, and_self, true_and, and_true, Option.some.injEq, reduceCtorEq, false_or, or_false, VV.p.injEq, PV.at.injEq, Value.int.injEq, sl1, vi, bl1, vb, nilV]); rfl
  rintro n i ⟨hn, hi⟩
  simp only [inV, PT.set, mkB]
  have hlen : ((List.range i).map (fillE x l)).length = i := by simp
  have hlen2 : (List.range i).length = i := by simp
  (repeat (first | refine VC.seq ?_ | refine VC.block ?_ | refine VC.kill ?_ | refine VC.skip ?_ | refine VC.exit ?_ | refine VC.regA ?_ | refine VC.condT ?_ | refine VC.condF ?_))
  refine VC.condA ?_ ?_ <;> intro h <;> (simp only [decide_eq_true_eq, decide_eq_false_iff_not, bne_iff_ne, ne_eq, bne_eq_false_iff_eq, beq_iff_eq, beq_eq_false_iff_ne, Bool.not_eq_true', Bool.not_eq_false', Bool.and_eq_true, Bool.or_eq_true, Int.natCast_inj] at h)
  · have h : i < x.length := by omega
    have hxi := hq _ (List.getElem_mem h)
    by_cases h1 : i < l.length
    · have hv : fillE x l i = l[i] % 18446744073709551616 % (x[i] + 1) := by
        rw [fillE, if_pos h1, List.getD_eq_getElem?_getD, List.getD_eq_getElem?_getD, List.getElem?_eq_getElem h1, List.getElem?_eq_getElem h]; rfl
      have hr0 := Int.emod_nonneg l[i] (b := 18446744073709551616) (by decide)
      have hr1 := Int.emod_lt_of_pos l[i] (b := 18446744073709551616) (by decide)
      have hr2 := Int.emod_nonneg (l[i] % 18446744073709551616) (b := x[i] + 1) (by omega)
      have hr3 := Int.emod_lt_of_pos (l[i] % 18446744073709551616) (b := x[i] + 1) (by omega)
      have hm : (x[i] + 1) % 18446744073709551616 = x[i] + 1 := Int.emod_eq_of_lt (by omega) (by omega)
      have hw : IntKind.i64.wrap (l[i] % 18446744073709551616 % (x[i] + 1)) = l[i] % 18446744073709551616 % (x[i] + 1) := by rw [Go.IntWalk.i64_in] <;> omega
      (repeat (first | refine VC.seq ?_ | refine VC.block ?_ | refine VC.kill ?_ | refine VC.skip ?_ | refine VC.exit ?_ | refine VC.regA ?_ | refine VC.condT ?_ | refine VC.condF ?_))
      refine ⟨_, i + 1, ?_, ⟨rfl, by omega⟩, ?_⟩
      · omega
      · (apply G.weak; constructor <;> simp (config := {decide := true}) only [PT.Le, inV, mkB, PT.set, VSt.kill, VSt.adopt, VSt.alloc, PT.filt, PT.map, List.map_cons, List.map_nil, noref, norefB, deadB, deadV, nos, nm, nmL, nmB, nmE, Pa.eqb, cond_true, cond_false, Bool.not_true, Bool.not_false, Bool.and_true, Bool.true_and, nmL_vi, flV_len, flP_len, flV_nm, flV_ok, flV_pv, flP_map, drop_flP, drop_flV, putC_flV, eqV2, eqV3, bneT, bneF, decide_true, decide_false, nmL_append, true_or, or_true, and_self, true_and, and_true, Option.some.injEq, reduceCtorEq, false_or, or_false, VV.p.injEq, PV.at.injEq, Value.int.injEq, sl1, vi, bl1, vb, nilV, range_map_succ, hv, hm, hw, List.map_append, List.map_cons, List.map_nil]) <;> first | rfl | (trace_state; omega)
    · have hv : fillE x l i = 0 := by rw [fillE, if_neg h1]
      (repeat (first | refine VC.seq ?_ | refine VC.block ?_ | refine VC.kill ?_ | refine VC.skip ?_ | refine VC.exit ?_ | refine VC.regA ?_ | refine VC.condT ?_ | refine VC.condF ?_))
      refine ⟨_, i + 1, ?_, ⟨rfl, by omega⟩, ?_⟩
      · omega
      · (apply G.weak; constructor <;> simp (config := {decide := true}) only [PT.Le, inV, mkB, PT.set, VSt.kill, VSt.adopt, VSt.alloc, PT.filt, PT.map, List.map_cons, List.map_nil, noref, norefB, deadB, deadV, nos, nm, nmL, nmB, nmE, Pa.eqb, cond_true, cond_false, Bool.not_true, Bool.not_false, Bool.and_true, Bool.true_and, nmL_vi, flV_len, flP_len, flV_nm, flV_ok, flV_pv, flP_map, drop_flP, drop_flV, putC_flV, eqV2, eqV3, bneT, bneF, decide_true, decide_false, nmL_append, true_or, or_true, and_self, true_and, and_true, Option.some.injEq, reduceCtorEq, false_or, or_false, VV.p.injEq, PV.at.injEq, Value.int.injEq, sl1, vi, bl1, vb, nilV, range_map_succ, hv, List.map_append, List.map_cons, List.map_nil]) <;> first | rfl | omega
  · have : i = x.length := by omega
    subst this
    (repeat (first | refine VC.seq ?_ | refine VC.block ?_ | refine VC.kill ?_ | refine VC.skip ?_ | refine VC.exit ?_ | refine VC.regA ?_ | refine VC.condT ?_ | refine VC.condF ?_))
    refine VC.ret (Fin.frzA p34 (Fin.A ?_))
    unfold fillF; rw [sl1, hlen]; rfl
end Go.Ab.Jug

namespace Go.Ab.Jug
end Go.Ab.Jug

/- An empty slice in a box is given a name. -/
namespace Go.Ab.V
section
variable {X : Ctx} {S S1 : VSt} {s : Slots} {h : AHeap} {ids : Pa → Option Nat} {F : Nat → Prop} {C : Cfg} {v v' : Value} {x y z : VV}
def _root_.Go.Ab.VSt.adoptB (S : VSt) (p : Pa) (i : Nat) (u : Nat) (d : Pa) (cs : List VV) : VSt := ⟨(S.alloc d (.cells [])).L, PT.set p (S.alloc d (.cells [])).B (some (.cells (cs.set i (.os u d 0)))), S.K, S.H⟩
theorem G.adoptB {p : Pa} {i : Nat} (u : Nat) (d : Pa) {cs : List VV} {x : VV} (hb : PT.get p (S.alloc d (.cells [])).B = some (.cells cs)) (hi : cs[i]? = some x) (hp : emptyV x = true) (hf : free S d = true) : G S (S.adoptB p i u d cs) := by
  intro X s h ids F t
  have t2 := t.newN (free_spec hf)
  have hB : ∀ {a b}, PT.get a (S.adoptB p i u d cs).B = some b → (a = p ∧ b = .cells (cs.set i (.os u d 0))) ∨ PT.get a (S.alloc d (.cells [])).B = some b := by
    intro a b hg
    have hg : PT.get a (PT.set p (S.alloc d (.cells [])).B (some (.cells (cs.set i (.os u d 0))))) = some b := hg
    rw [PT.get_set] at hg
    split at hg
    · rename_i e; cases hg; exact .inl ⟨e, rfl⟩
    · exact .inr hg
  refine ⟨_, F, ⟨t2.wf, t2.base, t2.next, t2.keep, t2.frz, t2.flt, fun a b hg => ?_, fun a b k hg hk => ?_, fun a1 a2 b1 b2 k g1 g2 e1 e2 => ?_, t2.slots, t2.stab, t2.hist⟩⟩
  · rcases hB hg with ⟨rfl, rfl⟩ | hg
    · have r := t2.blk a _ hb
      revert r
      cases hk : updI ids d none a with
      | none =>
        intro r
        have r : cs = [] := r
        subst r; simp at hi
      | some k =>
        rintro ⟨c, h1, h2⟩
        refine ⟨c, h1, by rw [List.length_set]; exact h2.1, fun j w y hw hy => ?_⟩
        rw [List.getElem?_set] at hy
        split at hy
        · rename_i e
          subst e
          split at hy
          · cases hy
            refine .osN (updI_same _ _ _) ?_
            have r := h2.2 i _ _ hw hi
            unfold emptyV at hp
            split at hp
            · exact .inl (at_inv r).1
            · cases r with
              | xs e => exact e
            · cases hp
          · cases hy
        · exact h2.2 j _ _ hw hy
    · exact t2.blk a b hg
  · rcases hB hg with ⟨rfl, rfl⟩ | hg
    · exact t2.own a _ k hb hk
    · exact t2.own a b k hg hk
  · have g1' : ∃ c, PT.get a1 (S.alloc d (.cells [])).B = some c := by
      rcases hB g1 with ⟨rfl, _⟩ | g
      · exact ⟨_, hb⟩
      · exact ⟨_, g⟩
    have g2' : ∃ c, PT.get a2 (S.alloc d (.cells [])).B = some c := by
      rcases hB g2 with ⟨rfl, _⟩ | g
      · exact ⟨_, hb⟩
      · exact ⟨_, g⟩
    obtain ⟨c1, g1'⟩ := g1'
    obtain ⟨c2, g2'⟩ := g2'
    exact t2.inj a1 a2 c1 c2 k g1' g2' e1 e2
theorem G.adoptBA {p : Pa} (i : Nat) (u : Nat) (d : Pa) {cs : List VV} {x : VV} {S2 : VSt} (hq : G (S.adoptB p i u d cs) S2) (hb : PT.get p (S.alloc d (.cells [])).B = some (.cells cs) := by rfl) (hi : cs[i]? = some x := by rfl) (hp : emptyV x = true := by rfl) (hf : free S d = true := by rfl) : G S S2 := (G.adoptB u d hb hi hp hf).trans hq
end
end Go.Ab.V

namespace Go.Ab.Jug
open Go.Ab.V
set_option maxRecDepth 100000
end Go.Ab.Jug

namespace Go.Ab.Jug
open Go.Ab.V
set_option maxRecDepth 100000
def okR (x f : List Int) (c : Bool) (a b : Int) : Bool := !(c && (decide (a = -1) || decide (b = -1))) && isR x.length a b && !decide (f = stepR x f a b)
def itR (x f : List Int) (c : Bool) (a b : Int) : List (Int × Int) := if okR x f c a b = true then [(a, b)] else []
def rowR (x f : List Int) (c : Bool) (a : Int) : Nat → List (Int × Int)
  | 0 => []
  | m + 1 => itR x f c a ((x.length : Int) - ((m + 1 : Nat) : Int)) ++ rowR x f c a m
def allR (x f : List Int) (c : Bool) : Nat → List (Int × Int)
  | 0 => []
  | k + 1 => rowR x f c ((x.length : Int) - ((k + 1 : Nat) : Int)) (x.length + 1) ++ allR x f c k
theorem stepR_len (x f : List Int) (a b : Int) : (stepR x f a b).length = f.length := by
  unfold stepR; split
  · simp
  · split <;> simp
theorem rowR_len (x f : List Int) (c : Bool) (a : Int) : ∀ m, (rowR x f c a m).length ≤ m
  | 0 => Nat.le_refl _
  | m + 1 => by
    have := rowR_len x f c a m
    have h2 : ∀ b, (itR x f c a b).length ≤ 1 := fun b => by unfold itR; split <;> simp
    have h3 := h2 ((x.length : Int) - ((m + 1 : Nat) : Int))
    simp only [rowR, List.length_append]; omega
theorem allR_len (x f : List Int) (c : Bool) : ∀ k, (allR x f c k).length ≤ k * (x.length + 1)
  | 0 => by simp [allR]
  | k + 1 => by
    have := allR_len x f c k
    have h2 := rowR_len x f c ((x.length : Int) - ((k + 1 : Nat) : Int)) (x.length + 1)
    simp only [allR, List.length_append]; rw [Nat.succ_mul]; omega
theorem allR_len25 (x f : List Int) (c : Bool) (hx : x.length ≤ 4) : (allR x f c (x.length + 1)).length ≤ 25 := by
  have := allR_len x f c (x.length + 1)
  have h2 : (x.length + 1) * (x.length + 1) ≤ 5 * 5 := Nat.mul_le_mul (by omega) (by omega)
  omega
set_option maxHeartbeats 4000000 in
theorem StepsR_ok (x f : List Int) (c : Bool) (hx : 1 ≤ x.length ∧ x.length ≤ 4) (hf : f.length = x.length) (hq : ∀ i ∈ x, 1 ≤ i ∧ i ≤ 12) (hv : ∀ (k : Nat) (h : k < f.length) (h' : k < x.length), 0 ≤ f[k] ∧ f[k] ≤ x[k]) :
    VCall cfg 19 [sl1 x, sl1 f, vb c] [] [] (slP (allR x f c (x.length + 1))) [] := by
  (refine VCall.mk (fn := a19) rfl rfl rfl ?_; simp only [a19, inV, mkB, nmsL, PT.set])
  (repeat (first | refine VC.seq ?_ | refine VC.block ?_ | refine VC.kill ?_ | refine VC.skip ?_ | refine VC.exit ?_ | refine VC.regA ?_ | refine VC.condT ?_ | refine VC.condF ?_))
  refine VC.loopG (fun (q : List (Int × Int) × Nat) => ⟨inV [p0, p1, p2, p7, p8] [sl1 x, sl1 f, vb c, .os 2 p54 q.1.length, vi ((x.length : Int) - (q.2 : Int))] .lf, mkB [(p54, .cells (flV q.1))] .lf, [], none⟩) (fun n q => n = q.2 ∧ q.2 ≤ x.length + 1 ∧ q.1 ++ allR x f c q.2 = allR x f c (x.length + 1)) (x := ([], x.length + 1)) ?_ ⟨rfl, Nat.le_refl _, rfl⟩ ?_
  · refine G.adoptA (p := p7) 2 p54 ?_
    (apply G.weak; constructor <;> simp (config := {decide := true}) only [PT.Le, inV, mkB, PT.set, VSt.kill, VSt.adopt, VSt.alloc, PT.filt, PT.map, List.map_cons, List.map_nil, noref, norefB, deadB, deadV, nos, nm, nmL, nmB, nmE, Pa.eqb, cond_true, cond_false, Bool.not_true, Bool.not_false, Bool.and_true, Bool.true_and, nmL_vi, flV_len, flP_len, flV_nm, flV_ok, flV_pv, flP_map, drop_flP, drop_flV, putC_flV, eqV2, eqV3, bneT, bneF, decide_true, decide_false, nmL_append, true_or, or_true, and_self, true_and, and_true, Option.some.injEq, reduceCtorEq, false_or, or_false, VV.p.injEq, PV.at.injEq, Value.int.injEq, sl1, vi, bl1, vb, nilV, pi])
    all_goals first | rfl | omega | exact ⟨rfl, by omega⟩
  rintro n ⟨L, k⟩ ⟨hn, hk, hL⟩
  simp only [inV, PT.set, mkB] at *
  (repeat (first | refine VC.seq ?_ | refine VC.block ?_ | refine VC.kill ?_ | refine VC.skip ?_ | refine VC.exit ?_ | refine VC.regA ?_ | refine VC.condT ?_ | refine VC.condF ?_))
  refine VC.condA ?_ ?_ <;> intro h <;> (simp only [decide_eq_true_eq, decide_eq_false_iff_not, bne_iff_ne, ne_eq, bne_eq_false_iff_eq, beq_iff_eq, beq_eq_false_iff_ne, Bool.not_eq_true', Bool.not_eq_false', Bool.and_eq_true, Bool.or_eq_true, Int.natCast_inj] at h)
  · obtain ⟨k, rfl⟩ : ∃ j, k = j + 1 := ⟨k - 1, by omega⟩
    have hA : -1 ≤ (x.length : Int) - ((k + 1 : Nat) : Int) ∧ (x.length : Int) - ((k + 1 : Nat) : Int) < x.length := by omega
    have hall : allR x f c (k + 1) = rowR x f c ((x.length : Int) - ((k + 1 : Nat) : Int)) (x.length + 1) ++ allR x f c k := rfl
    rw [hall] at hL
    generalize hAa : (x.length : Int) - ((k + 1 : Nat) : Int) = A at *
    (repeat (first | refine VC.seq ?_ | refine VC.block ?_ | refine VC.kill ?_ | refine VC.skip ?_ | refine VC.exit ?_ | refine VC.regA ?_ | refine VC.condT ?_ | refine VC.condF ?_))
    refine VC.loopG (fun (q : List (Int × Int) × Nat) => ⟨inV [p0, p1, p2, p7, p8, p9] [sl1 x, sl1 f, vb c, .os 2 p54 q.1.length, vi A, vi ((x.length : Int) - (q.2 : Int))] .lf, mkB [(p54, .cells (flV q.1))] .lf, [], none⟩) (fun n q => n = q.2 ∧ q.2 ≤ x.length + 1 ∧ q.1 ++ (rowR x f c A q.2 ++ allR x f c k) = allR x f c (x.length + 1)) (x := (L, x.length + 1)) ?_ ⟨rfl, Nat.le_refl _, hL⟩ ?_
    · (apply G.weak; constructor <;> simp (config := {decide := true}) only [PT.Le, inV, mkB, PT.set, VSt.kill, VSt.adopt, VSt.alloc, PT.filt, PT.map, List.map_cons, List.map_nil, noref, norefB, deadB, deadV, nos, nm, nmL, nmB, nmE, Pa.eqb, cond_true, cond_false, Bool.not_true, Bool.not_false, Bool.and_true, Bool.true_and, nmL_vi, flV_len, flP_len, flV_nm, flV_ok, flV_pv, flP_map, drop_flP, drop_flV, putC_flV, eqV2, eqV3, bneT, bneF, decide_true, decide_false, nmL_append, true_or, or_true, and_self, true_and, and_true, Option.some.injEq, reduceCtorEq, false_or, or_false, VV.p.injEq, PV.at.injEq, Value.int.injEq, sl1, vi, bl1, vb, nilV, pi])
      all_goals first | rfl | omega | exact ⟨rfl, by omega⟩
    rintro n' ⟨M, m⟩ ⟨hn', hm, hM⟩
    simp only [inV, PT.set, mkB] at *
    (repeat (first | refine VC.seq ?_ | refine VC.block ?_ | refine VC.kill ?_ | refine VC.skip ?_ | refine VC.exit ?_ | refine VC.regA ?_ | refine VC.condT ?_ | refine VC.condF ?_))
    refine VC.condA ?_ ?_ <;> intro h' <;> (simp only [decide_eq_true_eq, decide_eq_false_iff_not, bne_iff_ne, ne_eq, bne_eq_false_iff_eq, beq_iff_eq, beq_eq_false_iff_ne, Bool.not_eq_true', Bool.not_eq_false', Bool.and_eq_true, Bool.or_eq_true, Int.natCast_inj] at h')
    · obtain ⟨m, rfl⟩ : ∃ j, m = j + 1 := ⟨m - 1, by omega⟩
      have hB : -1 ≤ (x.length : Int) - ((m + 1 : Nat) : Int) ∧ (x.length : Int) - ((m + 1 : Nat) : Int) < x.length := by omega
      have hrow : rowR x f c A (m + 1) = itR x f c A ((x.length : Int) - ((m + 1 : Nat) : Int)) ++ rowR x f c A m := rfl
      rw [hrow, List.append_assoc] at hM
      generalize hBb : (x.length : Int) - ((m + 1 : Nat) : Int) = B at *
      have k1 := stepR_ok x f A B hx.2 hf (by omega) (by omega) hq hv hx.1
      simp only [ag2] at k1
      have fin0 : okR x f c A B = false → M ++ (rowR x f c A m ++ allR x f c k) = allR x f c (x.length + 1) := fun h => by
        have : itR x f c A B = [] := by simp [itR, h]
        rw [this, List.nil_append] at hM; exact hM
      by_cases hc1 : c = true ∧ A = -1
      · obtain ⟨rfl, e⟩ := hc1
        (repeat (first | refine VC.seq ?_ | refine VC.block ?_ | refine VC.kill ?_ | refine VC.skip ?_ | refine VC.exit ?_ | refine VC.regA ?_ | refine VC.condT ?_ | refine VC.condF ?_))
        refine ⟨_, (M, m), ?_, ⟨rfl, by omega, fin0 (by simp [okR, e])⟩, ?_⟩
        · simp; omega
        · (apply G.weak; constructor <;> simp (config := {decide := true}) only [PT.Le, inV, mkB, PT.set, VSt.kill, VSt.adopt, VSt.alloc, PT.filt, PT.map, List.map_cons, List.map_nil, noref, norefB, deadB, deadV, nos, nm, nmL, nmB, nmE, Pa.eqb, cond_true, cond_false, Bool.not_true, Bool.not_false, Bool.and_true, Bool.true_and, nmL_vi, flV_len, flP_len, flV_nm, flV_ok, flV_pv, flP_map, drop_flP, drop_flV, putC_flV, eqV2, eqV3, bneT, bneF, decide_true, decide_false, nmL_append, true_or, or_true, and_self, true_and, and_true, Option.some.injEq, reduceCtorEq, false_or, or_false, VV.p.injEq, PV.at.injEq, Value.int.injEq, sl1, vi, bl1, vb, nilV, pi])
          all_goals first | rfl | omega | exact ⟨rfl, by omega⟩
      by_cases hc2 : c = true ∧ B = -1
      · obtain ⟨rfl, e⟩ := hc2
        have hne : A ≠ -1 := fun e => hc1 ⟨rfl, e⟩
        (repeat (first | refine VC.seq ?_ | refine VC.block ?_ | refine VC.kill ?_ | refine VC.skip ?_ | refine VC.exit ?_ | refine VC.regA ?_ | refine VC.condT ?_ | refine VC.condF ?_))
        refine ⟨_, (M, m), ?_, ⟨rfl, by omega, fin0 (by simp [okR, e])⟩, ?_⟩
        · simp; omega
        · (apply G.weak; constructor <;> simp (config := {decide := true}) only [PT.Le, inV, mkB, PT.set, VSt.kill, VSt.adopt, VSt.alloc, PT.filt, PT.map, List.map_cons, List.map_nil, noref, norefB, deadB, deadV, nos, nm, nmL, nmB, nmE, Pa.eqb, cond_true, cond_false, Bool.not_true, Bool.not_false, Bool.and_true, Bool.true_and, nmL_vi, flV_len, flP_len, flV_nm, flV_ok, flV_pv, flP_map, drop_flP, drop_flV, putC_flV, eqV2, eqV3, bneT, bneF, decide_true, decide_false, nmL_append, true_or, or_true, and_self, true_and, and_true, Option.some.injEq, reduceCtorEq, false_or, or_false, VV.p.injEq, PV.at.injEq, Value.int.injEq, sl1, vi, bl1, vb, nilV, pi])
          all_goals first | rfl | omega | exact ⟨rfl, by omega⟩
      have hcc : (c && (decide (A = -1) || decide (B = -1))) = false := by
        cases c with
        | false => rfl
        | true => simp; exact ⟨fun e => hc1 ⟨rfl, e⟩, fun e => hc2 ⟨rfl, e⟩⟩
      have hne : c = true → A ≠ -1 ∧ B ≠ -1 := fun e => by
        subst e; exact ⟨fun e => hc1 ⟨rfl, e⟩, fun e => hc2 ⟨rfl, e⟩⟩
      cases hR : isR x.length A B with
      | false =>
        rw [hR] at k1
        have hok : okR x f c A B = false := by simp [okR, hR]
        cases c
        all_goals
          try have hne := hne rfl
          (repeat (first | refine VC.seq ?_ | refine VC.block ?_ | refine VC.kill ?_ | refine VC.skip ?_ | refine VC.exit ?_ | refine VC.regA ?_ | refine VC.condT ?_ | refine VC.condF ?_))
          (refine VC.regCA ?_; refine VO.moreA ?_; refine VO.call0A (no_orc _ (by decide)) k1 ?_; refine VO.endA ?_; (repeat (first | refine VC.seq ?_ | refine VC.block ?_ | refine VC.kill ?_ | refine VC.skip ?_ | refine VC.exit ?_ | refine VC.regA ?_ | refine VC.condT ?_ | refine VC.condF ?_)))
          refine ⟨_, (M, m), ?_, ⟨rfl, by omega, fin0 hok⟩, ?_⟩
          · simp; omega
          · (apply G.weak; constructor <;> simp (config := {decide := true}) only [PT.Le, inV, mkB, PT.set, VSt.kill, VSt.adopt, VSt.alloc, PT.filt, PT.map, List.map_cons, List.map_nil, noref, norefB, deadB, deadV, nos, nm, nmL, nmB, nmE, Pa.eqb, cond_true, cond_false, Bool.not_true, Bool.not_false, Bool.and_true, Bool.true_and, nmL_vi, flV_len, flP_len, flV_nm, flV_ok, flV_pv, flP_map, drop_flP, drop_flV, putC_flV, eqV2, eqV3, bneT, bneF, decide_true, decide_false, nmL_append, true_or, or_true, and_self, true_and, and_true, Option.some.injEq, reduceCtorEq, false_or, or_false, VV.p.injEq, PV.at.injEq, Value.int.injEq, sl1, vi, bl1, vb, nilV, pi])
            (all_goals first | rfl | omega | exact ⟨rfl, by omega⟩)
      | true =>
        rw [hR] at k1
        simp only [if_true] at k1
        have k2 := equal_ok f (stepR x f A B) (stepR_len ..).symm (by omega)
        by_cases hd : f = stepR x f A B
        · have hok : okR x f c A B = false := by simp [okR, ← hd]
          rw [decide_eq_true hd] at k2
          cases c
          all_goals
            try have hne := hne rfl
            (repeat (first | refine VC.seq ?_ | refine VC.block ?_ | refine VC.kill ?_ | refine VC.skip ?_ | refine VC.exit ?_ | refine VC.regA ?_ | refine VC.condT ?_ | refine VC.condF ?_))
            (refine VC.regCA ?_; refine VO.moreA ?_; refine VO.call0A (no_orc _ (by decide)) k1 ?_; refine VO.endA ?_; (repeat (first | refine VC.seq ?_ | refine VC.block ?_ | refine VC.kill ?_ | refine VC.skip ?_ | refine VC.exit ?_ | refine VC.regA ?_ | refine VC.condT ?_ | refine VC.condF ?_)))
            (refine VC.regCA ?_; refine VO.moreA ?_; refine VO.call0A (no_orc _ (by decide)) k2 ?_; refine VO.endA ?_; (repeat (first | refine VC.seq ?_ | refine VC.block ?_ | refine VC.kill ?_ | refine VC.skip ?_ | refine VC.exit ?_ | refine VC.regA ?_ | refine VC.condT ?_ | refine VC.condF ?_)))
            refine ⟨_, (M, m), ?_, ⟨rfl, by omega, fin0 hok⟩, ?_⟩
            · simp; omega
            · (apply G.weak; constructor <;> simp (config := {decide := true}) only [PT.Le, inV, mkB, PT.set, VSt.kill, VSt.adopt, VSt.alloc, PT.filt, PT.map, List.map_cons, List.map_nil, noref, norefB, deadB, deadV, nos, nm, nmL, nmB, nmE, Pa.eqb, cond_true, cond_false, Bool.not_true, Bool.not_false, Bool.and_true, Bool.true_and, nmL_vi, flV_len, flP_len, flV_nm, flV_ok, flV_pv, flP_map, drop_flP, drop_flV, putC_flV, eqV2, eqV3, bneT, bneF, decide_true, decide_false, nmL_append, true_or, or_true, and_self, true_and, and_true, Option.some.injEq, reduceCtorEq, false_or, or_false, VV.p.injEq, PV.at.injEq, Value.int.injEq, sl1, vi, bl1, vb, nilV, pi])
              (all_goals first | rfl | omega | exact ⟨rfl, by omega⟩)
        · have hit : itR x f c A B = [(A, B)] := by simp [itR, okR, hcc, hR, hd]
          rw [hit] at hM
          have hM' : M ++ [(A, B)] ++ (rowR x f c A m ++ allR x f c k) = allR x f c (x.length + 1) := by rw [← hM]; simp
          have hlen : (M ++ [(A, B)]).length = M.length + 1 := by simp
          have hfl := flV_snoc M A B
          have hl2 := flV_len M
          have hnm := flV_nm M
          have hML : M.length ≤ 24 := by
            have := allR_len25 x f c hx.2
            rw [← hM'] at this; simp at this; omega
          rw [decide_eq_false hd] at k2
          cases c
          all_goals
            try have hne := hne rfl
            (repeat (first | refine VC.seq ?_ | refine VC.block ?_ | refine VC.kill ?_ | refine VC.skip ?_ | refine VC.exit ?_ | refine VC.regA ?_ | refine VC.condT ?_ | refine VC.condF ?_))
            (refine VC.regCA ?_; refine VO.moreA ?_; refine VO.call0A (no_orc _ (by decide)) k1 ?_; refine VO.endA ?_; (repeat (first | refine VC.seq ?_ | refine VC.block ?_ | refine VC.kill ?_ | refine VC.skip ?_ | refine VC.exit ?_ | refine VC.regA ?_ | refine VC.condT ?_ | refine VC.condF ?_)))
            (refine VC.regCA ?_; refine VO.moreA ?_; refine VO.call0A (no_orc _ (by decide)) k2 ?_; refine VO.endA ?_; (repeat (first | refine VC.seq ?_ | refine VC.block ?_ | refine VC.kill ?_ | refine VC.skip ?_ | refine VC.exit ?_ | refine VC.regA ?_ | refine VC.condT ?_ | refine VC.condF ?_)))
            refine ⟨_, (M ++ [(A, B)], m), ?_, ⟨rfl, by omega, hM'⟩, ?_⟩
            · simp; omega
            · (apply G.weak; constructor <;> simp (config := {decide := true}) only [PT.Le, inV, mkB, PT.set, VSt.kill, VSt.adopt, VSt.alloc, PT.filt, PT.map, List.map_cons, List.map_nil, noref, norefB, deadB, deadV, nos, nm, nmL, nmB, nmE, Pa.eqb, cond_true, cond_false, Bool.not_true, Bool.not_false, Bool.and_true, Bool.true_and, nmL_vi, flV_len, flP_len, flV_nm, flV_ok, flV_pv, flP_map, drop_flP, drop_flV, putC_flV, eqV2, eqV3, bneT, bneF, decide_true, decide_false, nmL_append, true_or, or_true, and_self, true_and, and_true, Option.some.injEq, reduceCtorEq, false_or, or_false, VV.p.injEq, PV.at.injEq, Value.int.injEq, sl1, vi, bl1, vb, nilV, pi, hfl, hlen])
              (all_goals first | rfl | omega | exact ⟨rfl, by omega⟩)
    · have : m = 0 := by omega
      subst this
      (repeat (first | refine VC.seq ?_ | refine VC.block ?_ | refine VC.kill ?_ | refine VC.skip ?_ | refine VC.exit ?_ | refine VC.regA ?_ | refine VC.condT ?_ | refine VC.condF ?_))
      refine ⟨_, (M, k), ?_, ⟨rfl, by omega, ?_⟩, ?_⟩
      · simp; omega
      · simpa [rowR] using hM
      · (apply G.weak; constructor <;> simp (config := {decide := true}) only [PT.Le, inV, mkB, PT.set, VSt.kill, VSt.adopt, VSt.alloc, PT.filt, PT.map, List.map_cons, List.map_nil, noref, norefB, deadB, deadV, nos, nm, nmL, nmB, nmE, Pa.eqb, cond_true, cond_false, Bool.not_true, Bool.not_false, Bool.and_true, Bool.true_and, nmL_vi, flV_len, flP_len, flV_nm, flV_ok, flV_pv, flP_map, drop_flP, drop_flV, putC_flV, eqV2, eqV3, bneT, bneF, decide_true, decide_false, nmL_append, true_or, or_true, and_self, true_and, and_true, Option.some.injEq, reduceCtorEq, false_or, or_false, VV.p.injEq, PV.at.injEq, Value.int.injEq, sl1, vi, bl1, vb, nilV, pi])
        all_goals first | rfl | omega | exact ⟨rfl, by omega⟩
  · have : k = 0 := by omega
    subst this
    (repeat (first | refine VC.seq ?_ | refine VC.block ?_ | refine VC.kill ?_ | refine VC.skip ?_ | refine VC.exit ?_ | refine VC.regA ?_ | refine VC.condT ?_ | refine VC.condF ?_))
    have hL : L = allR x f c (x.length + 1) := by simpa [allR] using hL
    rw [← hL]
    exact VC.ret (Fin.frzA p54 (hb := rfl) (hc := flV_pv L) (Fin.A rfl))
end Go.Ab.Jug

namespace Go.Ab.Jug
open Go.Ab.V
set_option maxRecDepth 100000
/-- The steps from a filling, with the fillings afterwards. -/
def itP (n : Nat) (q f : List Int) (c : Bool) (a b : Int) : List ((Int × Int) × List Int) := if isS n c a b = true ∧ doS q f a b ≠ f then [((a, b), doS q f a b)] else []
def rowP (n : Nat) (q f : List Int) (c : Bool) (a : Int) : Nat → List ((Int × Int) × List Int)
  | 0 => []
  | m + 1 => itP n q f c a ((n : Int) - ((m + 1 : Nat) : Int)) ++ rowP n q f c a m
def allP (n : Nat) (q f : List Int) (c : Bool) : Nat → List ((Int × Int) × List Int)
  | 0 => []
  | k + 1 => rowP n q f c ((n : Int) - ((k + 1 : Nat) : Int)) (n + 1) ++ allP n q f c k
def encI (p : (Int × Int) × List Int) : List VV := [ag2 p.1.1 p.1.2, .agg (p.2.map vi)]
theorem itS_eq (n : Nat) (q f : List Int) (c : Bool) (a b : Int) : itemS n q f c a b = (itP n q f c a b).map encI := by
  unfold itemS itP; split <;> rfl
theorem rowS_eq (n : Nat) (q f : List Int) (c : Bool) (a : Int) : ∀ m, rowS n q f c a m = (rowP n q f c a m).map encI
  | 0 => rfl
  | m + 1 => by rw [rowS, rowP, List.map_append, itS_eq, rowS_eq n q f c a m]
theorem allS_eq (n : Nat) (q f : List Int) (c : Bool) : ∀ k, allS n q f c k = (allP n q f c k).map encI
  | 0 => rfl
  | k + 1 => by rw [allS, allP, List.map_append, rowS_eq, allS_eq n q f c k]
theorem pad4_len (x : List Int) (h : x.length ≤ 4) : (pad4 x).length = 4 := by simp [pad4]; omega
theorem pad4_getD (x : List Int) (i : Nat) (h : i < x.length) : (pad4 x).getD i 0 = x.getD i 0 := by
  rw [List.getD_eq_getElem?_getD, List.getD_eq_getElem?_getD, pad4, List.getElem?_append_left h]
theorem pad4_set (x : List Int) (i : Nat) (v : Int) (h : i < x.length) : (pad4 x).set i v = pad4 (x.set i v) := by
  unfold pad4; rw [List.set_append_left _ _ h, List.length_set]
theorem pad4_inj {x y : List Int} (h : x.length = y.length) (e : pad4 x = pad4 y) : x = y := (List.append_inj e h).1
theorem doS_pad (x f : List Int) (a b : Int) (hf : f.length = x.length) (ha : -1 ≤ a ∧ a < x.length) (hb : -1 ≤ b ∧ b < x.length) (hab : a ≠ b) : doS (pad4 x) (pad4 f) a b = pad4 (stepR x f a b) := by
  unfold doS stepR atQ
  by_cases h1 : a = -1
  · rw [if_pos h1, if_pos h1, pad4_getD _ _ (by omega), pad4_set _ _ _ (by omega)]
  rw [if_neg h1, if_neg h1]
  by_cases h2 : b = -1
  · rw [if_pos h2, if_pos h2, pad4_set _ _ _ (by omega)]
  rw [if_neg h2, if_neg h2, pad4_getD _ _ (by omega), pad4_getD _ _ (by omega), pad4_getD _ _ (by omega), pad4_set _ _ _ (by omega), pad4_set _ _ _ (by rw [List.length_set]; omega)]
theorem isS_eq (n : Nat) (c : Bool) (a b : Int) : isS n c a b = (!(c && (decide (a = -1) || decide (b = -1))) && isR n a b) := by
  unfold isS isR
  cases c <;> simp [Bool.and_comm, Bool.and_assoc]
def encR (x f : List Int) (p : Int × Int) : (Int × Int) × List Int := (p, pad4 (stepR x f p.1 p.2))
theorem itP_eq (x f : List Int) (c : Bool) (a b : Int) (hf : f.length = x.length) (ha : -1 ≤ a ∧ a < x.length) (hb : -1 ≤ b ∧ b < x.length) : itP x.length (pad4 x) (pad4 f) c a b = (itR x f c a b).map (encR x f) := by
  unfold itP itR okR
  rw [isS_eq]
  cases h : (!(c && (decide (a = -1) || decide (b = -1))) && isR x.length a b) with
  | false => simp
  | true =>
    have hab : a ≠ b := by
      intro e; subst e; simp [isR] at h
    rw [doS_pad x f a b hf ha hb hab]
    by_cases hd : f = stepR x f a b
    · rw [if_neg (fun h => h.2 (by rw [← hd])), if_neg (by simp [← hd])]; rfl
    · rw [if_pos ⟨rfl, fun e => hd (pad4_inj (stepR_len ..) e).symm⟩, if_pos (by simp [hd])]; rfl
theorem rowP_eq (x f : List Int) (c : Bool) (a : Int) (hf : f.length = x.length) (ha : -1 ≤ a ∧ a < x.length) : ∀ m, m ≤ x.length + 1 → rowP x.length (pad4 x) (pad4 f) c a m = (rowR x f c a m).map (encR x f)
  | 0, _ => rfl
  | m + 1, h => by rw [rowP, rowR, List.map_append, rowP_eq x f c a hf ha m (by omega), itP_eq x f c a _ hf ha (by omega)]
theorem allP_eq (x f : List Int) (c : Bool) (hf : f.length = x.length) : ∀ k, k ≤ x.length + 1 → allP x.length (pad4 x) (pad4 f) c k = (allR x f c k).map (encR x f)
  | 0, _ => rfl
  | k + 1, h => by rw [allP, allR, List.map_append, allP_eq x f c hf k (by omega), rowP_eq x f c _ hf (by omega) _ (by omega)]
/-- The steps of jugs, as they are handed on. -/
def itemsJ (x f : List Int) (c : Bool) : List (List VV) := (allR x f c (x.length + 1)).map fun p => encI (encR x f p)
theorem four {P : List Int} (h : P.length = 4) : ∃ a b c d, P = [a, b, c, d] := by
  rcases P with _ | ⟨a, _ | ⟨b, _ | ⟨d, _ | ⟨e, _ | ⟨f, r⟩⟩⟩⟩⟩ <;> first | exact ⟨_, _, _, _, rfl⟩ | simp at h
theorem pad4_bd (x f : List Int) (hx : x.length ≤ 4) (hq : ∀ i ∈ x, 1 ≤ i ∧ i ≤ 12) (hf : fillB x f = true) (i : Nat) : 0 ≤ (pad4 f).getD i 0 ∧ (pad4 f).getD i 0 ≤ (pad4 x).getD i 0 ∧ (pad4 x).getD i 0 ≤ 12 := by
  rw [fillB_iff] at hf
  rcases Nat.lt_or_ge i x.length with h | h
  · have h' : i < f.length := by omega
    rw [pad4_getD _ _ h, pad4_getD _ _ h', List.getD_eq_getElem?_getD, List.getD_eq_getElem?_getD, List.getElem?_eq_getElem h, List.getElem?_eq_getElem h']
    have := hf.2 i h' h
    have := hq _ (List.getElem_mem h)
    simp only [Option.getD_some]; omega
  · have e : ∀ (y : List Int), y.length = x.length → (pad4 y).getD i 0 = 0 := by
      intro y hy
      rw [List.getD_eq_getElem?_getD, pad4, List.getElem?_append_right (by omega), List.getElem?_replicate]
      split <;> rfl
    rw [e x rfl, e f hf.1]; omega
/-- The iterator of the steps, by the lists themselves. -/
theorem stepsIt (x f : List Int) (c : Bool) (hx : x.length ≤ 4) (hq : ∀ i ∈ x, 1 ≤ i ∧ i ≤ 12) (hf : fillB x f = true) : VIter cfg 65 [] [.p (.fp 0 [.fp 0 (jugC x c)]), .p (.fp 0 ((pad4 f).map pi))] false (itemsJ x f c) := by
  have hl : f.length = x.length := ((fillB_iff x f).1 hf).1
  obtain ⟨q0, q1, q2, q3, hQ⟩ := four (pad4_len x hx)
  obtain ⟨f0, f1, f2, f3, hF⟩ := four (pad4_len f (by omega))
  have bd := pad4_bd x f hx hq hf
  rw [hQ, hF] at bd
  have b0 := bd 0; have b1 := bd 1; have b2 := bd 2; have b3 := bd 3
  simp at b0 b1 b2 b3
  have := steps1_ok (n := x.length) (c := c) (q0 := q0) (q1 := q1) (q2 := q2) (q3 := q3) (f0 := f0) (f1 := f1) (f2 := f2) (f3 := f3) hx (by omega) (by omega) (by omega) (by omega)
  rw [allS_eq, ← hQ, ← hF, allP_eq x f c hl _ (Nat.le_refl _), List.map_map] at this
  unfold jugC
  rw [hQ, hF]
  exact this
theorem stepsJ_ok (x f : List Int) (c : Bool) (hx : x.length ≤ 4) (hf : f.length = x.length) : VCall cfg 47 [jugP x c, .agg ((pad4 f).map vi)] [] [] (.clos 65 [] [.p (.fp 0 [.fp 0 (jugC x c)]), .p (.fp 0 ((pad4 f).map pi))]) [] := by
  obtain ⟨q0, q1, q2, q3, hQ⟩ := four (pad4_len x hx)
  obtain ⟨f0, f1, f2, f3, hF⟩ := four (pad4_len f (by omega))
  unfold jugP jugC
  rw [hQ, hF]
  exact steps_ok (n := x.length)
set_option maxHeartbeats 4000000 in
theorem Steps_ok (x f : List Int) (c : Bool) (hx : okJ x) (hf : fillB x f = true) : VCall cfg 18 [sl1 x, sl1 f, vb c] [] [] (.tup [slP (allR x f c (x.length + 1)), vi 0]) [] := by
  have hl : x.length ≤ 9223372036854775807 := by have := hx.2.1; omega
  have hlf : f.length = x.length := ((fillB_iff x f).1 hf).1
  have ho := opens x c [f] hl (by simp; omega) (by simp)
  have hv : openV x [f] = 0 := by unfold openV; rw [if_pos hx, if_pos (by simp [hf])]
  rw [openJ, hv, if_pos rfl] at ho
  have hof := of_ok f (by have := hx.2.1; omega)
  have hst := stepsJ_ok x f c hx.2.1 hlf
  have hit := stepsIt x f c hx.2.1 (okJ_mem hx) hf
  have h25 := allR_len25 x f c hx.2.1
  unfold jugP at hst ho
  (refine VCall.mk (fn := a18) rfl rfl rfl ?_; simp only [a18, inV, mkB, nmsL, PT.set])
  (repeat (first | refine VC.seq ?_ | refine VC.block ?_ | refine VC.kill ?_ | refine VC.skip ?_ | refine VC.exit ?_ | refine VC.regA ?_ | refine VC.condT ?_ | refine VC.condF ?_))
  refine VC.regCA ?_
  refine VO.moreA ?_
  refine VO.frzA p16 ?_
  refine VO.call0A (no_orc 46 (by decide)) ho ?_
  refine VO.endA ?_
  (repeat (first | refine VC.seq ?_ | refine VC.block ?_ | refine VC.kill ?_ | refine VC.skip ?_ | refine VC.exit ?_ | refine VC.regA ?_ | refine VC.condT ?_ | refine VC.condF ?_))
  refine VC.regCA ?_
  refine VO.moreA ?_
  refine VO.call0A (no_orc 48 (by decide)) hof ?_
  refine VO.moreA ?_
  refine VO.call0A (no_orc 47 (by decide)) hst ?_
  refine VO.endA ?_
  (repeat (first | refine VC.seq ?_ | refine VC.block ?_ | refine VC.kill ?_ | refine VC.skip ?_ | refine VC.exit ?_ | refine VC.regA ?_ | refine VC.condT ?_ | refine VC.condF ?_))
  refine VC.ghost (G.adoptBA (p := p10) 0 2 p36 G.refl) ?_
  (simp only [VSt.kill, VSt.adoptB, VSt.adopt, VSt.alloc, PT.filt, norefB, deadB, deadV, PT.map, Option.map_some, Option.map_none, List.map_cons, List.map_nil, noref, nos, nm, nmL, nmB, nmE, Pa.eqb, PT.set, mkB, inV, cond_true, cond_false, Bool.and_true, Bool.not_false, Bool.not_true, List.set_cons_zero, List.set_cons_succ])
  refine VC.rangeFA (fun (L : List (Int × Int)) => mkB [(p10, .cells [.os 2 p36 L.length]), (p36, .cells (flV L))] .lf) (fun i L => L = (allR x f c (x.length + 1)).take i) (x0 := []) [p10] (no_orc 65 (by decide)) hit ?_ ?_ (by simp) ?_ ?_ ?_
  · simp [NmOk, VSt.kill, VSt.adoptB, VSt.alloc, PT.filt, PT.set, nm, nmL, noref, nos, Pa.eqb]
  · simp [mkB, VSt.kill, VSt.adoptB, VSt.alloc, PT.filt, PT.map, deadB, deadV, noref, norefB, nos, nm, nmL, nmB, Pa.eqb, PT.set, PT.Le, flV]
  · intro y hy
    obtain ⟨p, _, rfl⟩ := List.mem_map.1 hy
    rfl
  · intro i L hlt hL
    have hlt' : i < (allR x f c (x.length + 1)).length := by rw [itemsJ, List.length_map] at hlt; exact hlt
    generalize hAB : (allR x f c (x.length + 1))[i] = ab
    have hi : (itemsJ x f c)[i] = encI (encR x f ab) := by simp only [itemsJ, List.getElem_map]; rw [hAB]
    have hnext : L ++ [ab] = (allR x f c (x.length + 1)).take (i + 1) := by rw [hL, List.take_add_one, List.getElem?_eq_getElem hlt', hAB]; rfl
    have hLi : L.length = i := by rw [hL, List.length_take]; omega
    obtain ⟨A, B⟩ := ab
    rw [hi]
    have hl2 := flV_len L
    have hnm := flV_nm L
    have hfl := flV_snoc L A B
    have hlen : (L ++ [(A, B)]).length = L.length + 1 := by simp
    simp only [encI, encR, ag2]
    (simp only [VSt.kill, VSt.adoptB, VSt.adopt, VSt.alloc, PT.filt, norefB, deadB, deadV, PT.map, Option.map_some, Option.map_none, List.map_cons, List.map_nil, noref, nos, nm, nmL, nmB, nmE, Pa.eqb, PT.set, mkB, inV, cond_true, cond_false, Bool.and_true, Bool.not_false, Bool.not_true, List.set_cons_zero, List.set_cons_succ])
    (repeat (first | refine VC.seq ?_ | refine VC.block ?_ | refine VC.kill ?_ | refine VC.skip ?_ | refine VC.exit ?_ | refine VC.regA ?_ | refine VC.condT ?_ | refine VC.condF ?_))
    refine ⟨by simp, L ++ [(A, B)], hnext, ?_⟩
    (apply G.weak; constructor <;> simp (config := {decide := true}) only [PT.Le, inV, mkB, PT.set, VSt.kill, VSt.adopt, VSt.alloc, PT.filt, PT.map, List.map_cons, List.map_nil, noref, norefB, deadB, deadV, nos, nm, nmL, nmB, nmE, Pa.eqb, cond_true, cond_false, Bool.not_true, Bool.not_false, Bool.and_true, Bool.true_and, nmL_vi, flV_len, flP_len, flV_nm, flV_ok, flV_pv, flP_map, drop_flP, drop_flV, putC_flV, eqV2, eqV3, bneT, bneF, decide_true, decide_false, nmL_append, true_or, or_true, and_self, true_and, and_true, Option.some.injEq, reduceCtorEq, false_or, or_false, VV.p.injEq, PV.at.injEq, Value.int.injEq, sl1, vi, bl1, vb, nilV, hfl, hlen, pi])
    (all_goals first | rfl | omega | exact ⟨rfl, by omega⟩)
  · intro _ L hL
    have hL : L = allR x f c (x.length + 1) := by rw [hL, itemsJ, List.length_map, List.take_length]
    rw [← hL]
    have hpv := flV_pv L
    (simp only [VSt.kill, VSt.adoptB, VSt.adopt, VSt.alloc, PT.filt, norefB, deadB, deadV, PT.map, Option.map_some, Option.map_none, List.map_cons, List.map_nil, noref, nos, nm, nmL, nmB, nmE, Pa.eqb, PT.set, mkB, inV, cond_true, cond_false, Bool.and_true, Bool.not_false, Bool.not_true, List.set_cons_zero, List.set_cons_succ])
    (repeat (first | refine VC.seq ?_ | refine VC.block ?_ | refine VC.kill ?_ | refine VC.skip ?_ | refine VC.exit ?_ | refine VC.regA ?_ | refine VC.condT ?_ | refine VC.condF ?_))
    exact VC.ret (Fin.frzA p36 (hb := rfl) (hc := hpv) (Fin.A rfl))
end Go.Ab.Jug

namespace Go.Ab.Jug
set_option maxRecDepth 1000000
theorem awake_runs : (match run true cfg0 400 (.call 20 [] ⟨fun _ => none, .lf, 0, 0⟩) with
  | some (_, .nd (.bool true) _ _, _) => true
  | _ => false) = true := by decide +kernel
theorem awake_closed : ClosedAns cfg0 20 (.bool true) := by
  have h := awake_runs
  split at h
  · rename_i e l r h' he; exact ⟨400, e, l, r, h', he⟩
  · cases h
end Go.Ab.Jug

namespace Go.Ab.Jug
open Go.Ab.V
set_option maxRecDepth 100000
theorem tameJ_ok (l : List Int) (m : Nat) (hm : 1 ≤ m ∧ m ≤ 4) : okJ (tameJ l m) := by
  unfold tameJ
  split
  · rw [okJ_iff]; simp
  · rw [okJ_iff]
    refine ⟨fun x hx => ?_, ?_, ?_⟩
    · obtain ⟨y, _, rfl⟩ := List.mem_map.1 hx
      exact red12_bd y
    · rw [List.length_map]; omega
    · rw [List.length_map, List.length_take]; omega
theorem fillF_ok (x l : List Int) (hq : ∀ i ∈ x, 1 ≤ i ∧ i ≤ 12) : fillB x (fillF x l) = true := by
  rw [fillB_iff]
  refine ⟨by simp [fillF], fun i h h' => ?_⟩
  simp only [fillF, List.getElem_map, List.getElem_range, fillE]
  have hx := hq _ (List.getElem_mem h')
  rw [show x.getD i 0 = x[i] from by rw [List.getD_eq_getElem?_getD, List.getElem?_eq_getElem h', Option.getD_some]]
  split
  · exact ⟨Int.emod_nonneg _ (by omega), by have := Int.emod_lt_of_pos (l.getD i 0 % 18446744073709551616) (b := x[i] + 1) (by omega); omega⟩
  · omega
set_option maxHeartbeats 4000000 in
theorem steps_law (l m : List Int) (hl : l.length ≤ 9223372036854775807) (hm : m.length ≤ 9223372036854775807) : VCall cfg 3 [sl1 l, sl1 m] [] [] (vb true) [] := by
  have k1 := tame_ok l 4 (by decide) hl
  generalize hX : tameJ l 4 = x at k1
  have hx : okJ x := by rw [← hX]; exact tameJ_ok l 4 (by omega)
  have hq := okJ_mem hx
  have k2 := filled_ok x m ⟨hx.1, hx.2.1⟩ hq hm
  generalize hF : fillF x m = f at k2
  have hf : fillB x f = true := by rw [← hF]; exact fillF_ok x m hq
  have hlf : f.length = x.length := ((fillB_iff x f).1 hf).1
  have hv := ((fillB_iff x f).1 hf).2
  have k3 := fun c => Steps_ok x f c hx hf
  have k4 := fun c => StepsR_ok x f c ⟨hx.1, hx.2.1⟩ hlf hq hv
  have h25 := fun c => allR_len25 x f c hx.2.1
  (refine VCall.mk (fn := a3) rfl rfl rfl ?_; simp only [a3, inV, mkB, nmsL, PT.set])
  (repeat (first | refine VC.seq ?_ | refine VC.block ?_ | refine VC.kill ?_ | refine VC.skip ?_ | refine VC.exit ?_ | refine VC.regA ?_ | refine VC.condT ?_ | refine VC.condF ?_))
  (refine VC.regCA ?_; refine VO.moreA ?_; refine VO.call0A (no_orc _ (by decide)) k1 ?_; refine VO.endA ?_; (repeat (first | refine VC.seq ?_ | refine VC.block ?_ | refine VC.kill ?_ | refine VC.skip ?_ | refine VC.exit ?_ | refine VC.regA ?_ | refine VC.condT ?_ | refine VC.condF ?_)))
  (refine VC.regCA ?_; refine VO.moreA ?_; refine VO.call0A (no_orc _ (by decide)) k2 ?_; refine VO.endA ?_; (repeat (first | refine VC.seq ?_ | refine VC.block ?_ | refine VC.kill ?_ | refine VC.skip ?_ | refine VC.exit ?_ | refine VC.regA ?_ | refine VC.condT ?_ | refine VC.condF ?_)))
  refine VC.loopG (fun (k : Nat) => ⟨inV [p5, p6, p7] [sl1 x, sl1 f, vi k] .lf, .lf, [], none⟩) (fun n k => n = 2 - k ∧ k ≤ 2) (x := 0) ?_ ⟨rfl, by omega⟩ ?_
  · (apply G.weak; constructor <;> simp (config := {decide := true}) only [PT.Le, inV, mkB, PT.set, VSt.kill, VSt.adopt, VSt.alloc, PT.filt, PT.map, List.map_cons, List.map_nil, noref, norefB, deadB, deadV, nos, nm, nmL, nmB, nmE, Pa.eqb, cond_true, cond_false, Bool.not_true, Bool.not_false, Bool.and_true, Bool.true_and, nmL_vi, flV_len, flP_len, flV_nm, flV_ok, flV_pv, flP_map, drop_flP, drop_flV, putC_flV, eqV2, eqV3, bneT, bneF, decide_true, decide_false, nmL_append, true_or, or_true, and_self, true_and, and_true, Option.some.injEq, reduceCtorEq, false_or, or_false, VV.p.injEq, PV.at.injEq, Value.int.injEq, sl1, vi, bl1, vb, nilV])
  rintro n k ⟨hn, hk⟩
  simp only [inV, PT.set]
  (repeat (first | refine VC.seq ?_ | refine VC.block ?_ | refine VC.kill ?_ | refine VC.skip ?_ | refine VC.exit ?_ | refine VC.regA ?_ | refine VC.condT ?_ | refine VC.condF ?_))
  refine VC.condA ?_ ?_ <;> intro h <;> (simp only [decide_eq_true_eq, decide_eq_false_iff_not, bne_iff_ne, ne_eq, bne_eq_false_iff_eq, beq_iff_eq, beq_eq_false_iff_ne, Bool.not_eq_true', Bool.not_eq_false', Bool.and_eq_true, Bool.or_eq_true, Int.natCast_inj] at h)
  · have h : k < 2 := by omega
    have k3 := k3 (decide ((k : Int) = 0))
    have k4 := k4 (decide ((k : Int) = 0))
    have h25 := h25 (decide ((k : Int) = 0))
    generalize allR x f (decide ((k : Int) = 0)) (x.length + 1) = L at k3 k4 h25
    (repeat (first | refine VC.seq ?_ | refine VC.block ?_ | refine VC.kill ?_ | refine VC.skip ?_ | refine VC.exit ?_ | refine VC.regA ?_ | refine VC.condT ?_ | refine VC.condF ?_))
    (refine VC.regCA ?_; refine VO.moreA ?_; refine VO.call0A (no_orc _ (by decide)) k3 ?_; refine VO.endA ?_; (repeat (first | refine VC.seq ?_ | refine VC.block ?_ | refine VC.kill ?_ | refine VC.skip ?_ | refine VC.exit ?_ | refine VC.regA ?_ | refine VC.condT ?_ | refine VC.condF ?_)))
    (refine VC.regCA ?_; refine VO.moreA ?_; refine VO.call0A (no_orc _ (by decide)) k4 ?_; refine VO.endA ?_; (repeat (first | refine VC.seq ?_ | refine VC.block ?_ | refine VC.kill ?_ | refine VC.skip ?_ | refine VC.exit ?_ | refine VC.regA ?_ | refine VC.condT ?_ | refine VC.condF ?_)))
    refine VC.loopG (fun (i : Nat) => ⟨inV [p5, p6, p7, p8, p10, p11] [sl1 x, sl1 f, vi k, slP L, slP L, vi i] .lf, .lf, [], none⟩) (fun n i => n = L.length - i ∧ i ≤ L.length) (x := 0) ?_ ⟨rfl, by omega⟩ ?_
    · (apply G.weak; constructor <;> simp (config := {decide := true}) only [PT.Le, inV, mkB, PT.set, VSt.kill, VSt.adopt, VSt.alloc, PT.filt, PT.map, List.map_cons, List.map_nil, noref, norefB, deadB, deadV, nos, nm, nmL, nmB, nmE, Pa.eqb, cond_true, cond_false, Bool.not_true, Bool.not_false, Bool.and_true, Bool.true_and, nmL_vi, flV_len, flP_len, flV_nm, flV_ok, flV_pv, flP_map, drop_flP, drop_flV, putC_flV, eqV2, eqV3, bneT, bneF, decide_true, decide_false, nmL_append, true_or, or_true, and_self, true_and, and_true, Option.some.injEq, reduceCtorEq, false_or, or_false, VV.p.injEq, PV.at.injEq, Value.int.injEq, sl1, vi, bl1, vb, nilV, slP])
    rintro n i ⟨hn, hi⟩
    simp only [inV, PT.set]
    (repeat (first | refine VC.seq ?_ | refine VC.block ?_ | refine VC.kill ?_ | refine VC.skip ?_ | refine VC.exit ?_ | refine VC.regA ?_ | refine VC.condT ?_ | refine VC.condF ?_))
    refine VC.condA ?_ ?_ <;> intro h <;> (simp only [decide_eq_true_eq, decide_eq_false_iff_not, bne_iff_ne, ne_eq, bne_eq_false_iff_eq, beq_iff_eq, beq_eq_false_iff_ne, Bool.not_eq_true', Bool.not_eq_false', Bool.and_eq_true, Bool.or_eq_true, Int.natCast_inj] at h)
    · have h : i < L.length := by omega
      (repeat (first | refine VC.seq ?_ | refine VC.block ?_ | refine VC.kill ?_ | refine VC.skip ?_ | refine VC.exit ?_ | refine VC.regA ?_ | refine VC.condT ?_ | refine VC.condF ?_))
      refine ⟨_, i + 1, ?_, ⟨rfl, by omega⟩, ?_⟩
      · omega
      · (apply G.weak; constructor <;> simp (config := {decide := true}) only [PT.Le, inV, mkB, PT.set, VSt.kill, VSt.adopt, VSt.alloc, PT.filt, PT.map, List.map_cons, List.map_nil, noref, norefB, deadB, deadV, nos, nm, nmL, nmB, nmE, Pa.eqb, cond_true, cond_false, Bool.not_true, Bool.not_false, Bool.and_true, Bool.true_and, nmL_vi, flV_len, flP_len, flV_nm, flV_ok, flV_pv, flP_map, drop_flP, drop_flV, putC_flV, eqV2, eqV3, bneT, bneF, decide_true, decide_false, nmL_append, true_or, or_true, and_self, true_and, and_true, Option.some.injEq, reduceCtorEq, false_or, or_false, VV.p.injEq, PV.at.injEq, Value.int.injEq, sl1, vi, bl1, vb, nilV, slP]); rfl
    · (repeat (first | refine VC.seq ?_ | refine VC.block ?_ | refine VC.kill ?_ | refine VC.skip ?_ | refine VC.exit ?_ | refine VC.regA ?_ | refine VC.condT ?_ | refine VC.condF ?_))
      refine ⟨_, k + 1, ?_, ⟨rfl, by omega⟩, ?_⟩
      · omega
      · (apply G.weak; constructor <;> simp (config := {decide := true}) only [PT.Le, inV, mkB, PT.set, VSt.kill, VSt.adopt, VSt.alloc, PT.filt, PT.map, List.map_cons, List.map_nil, noref, norefB, deadB, deadV, nos, nm, nmL, nmB, nmE, Pa.eqb, cond_true, cond_false, Bool.not_true, Bool.not_false, Bool.and_true, Bool.true_and, nmL_vi, flV_len, flP_len, flV_nm, flV_ok, flV_pv, flP_map, drop_flP, drop_flV, putC_flV, eqV2, eqV3, bneT, bneF, decide_true, decide_false, nmL_append, true_or, or_true, and_self, true_and, and_true, Option.some.injEq, reduceCtorEq, false_or, or_false, VV.p.injEq, PV.at.injEq, Value.int.injEq, sl1, vi, bl1, vb, nilV, slP]); rfl
  · (repeat (first | refine VC.seq ?_ | refine VC.block ?_ | refine VC.kill ?_ | refine VC.skip ?_ | refine VC.exit ?_ | refine VC.regA ?_ | refine VC.condT ?_ | refine VC.condF ?_))
    refine VC.regCA ?_
    refine VO.moreA ?_
    refine VO.knownA (.bool true) rfl ?_
    refine VO.endA ?_
    (repeat (first | refine VC.seq ?_ | refine VC.block ?_ | refine VC.kill ?_ | refine VC.skip ?_ | refine VC.exit ?_ | refine VC.regA ?_ | refine VC.condT ?_ | refine VC.condF ?_))
    exact VC.ret (Fin.A rfl)
end Go.Ab.Jug

/- From the second evaluator to the model: a law's call; its arguments. -/
namespace Go.Ab.V
open Go.RowKit (Below)

def selfB : Value → Bool
  | .bool _ | .int .. | .string _ | .pointer none | .slice none _ _ | .map none | .nilFunc | .nilIface => true
  | .pointer (some a) => a.spot.isNone
  | .slice (some a) l c => a.spot.isNone && Nat.ble l c
  | _ => false
def cln (v : Value) : Value := bif selfB v then v else undef
theorem cln_vr (J : Inj) (v : Value) : VR J (cln v) v := by
  unfold cln
  cases hs : selfB v with
  | false => exact .undef v
  | true =>
    simp only [cond_true]
    unfold selfB at hs
    split at hs
    · exact .bool _
    · exact .int _ _
    · exact .string _
    · exact .ptrN
    · exact .slN _ _
    · exact .mapN
    · exact .nilFunc
    · exact .nilIface
    · rename_i a
      refine .ptr ?_
      unfold AddrR
      rw [Option.isNone_iff_eq_none.1 hs]
    · rename_i a l c
      rw [Bool.and_eq_true] at hs
      refine .sl l (Nat.le_of_ble_eq_true hs.2) ?_
      unfold SlR
      rw [Option.isNone_iff_eq_none.1 hs.1]
      exact ⟨rfl, .inr rfl⟩
    · cases hs
/-- What lies there when a law is called: all of it is read alone. -/
def baseW (W : World) (b : Nat) : Option (List Value) := match W.heap[b]? with
  | some (.cells c _ _) => some (c.toList.map cln)
  | _ => none
def heapW (W : World) : AHeap := ⟨baseW W, .lf, 0, 0⟩
def J0 : Inj := fun _ => none
theorem heapW_get (W : World) (k : Nat) : (heapW W).get k = none := by simp [heapW, AHeap.get, Tr.get_lf]
theorem sim0 (OK : Nat → Code → ACode → Prop) (W : World) : Sim OK J0 (heapW W) W := by
  refine ⟨fun b c hc => ?_, fun k o h => (by rw [heapW_get] at h; cases h), fun k k' o o' pl pl' h => (by rw [heapW_get] at h; cases h), fun k o pl h => (by rw [heapW_get] at h; cases h)⟩
  have hc : baseW W b = some c := hc
  unfold baseW at hc
  split at hc
  · rename_i arr e fz hb
    cases hc
    refine ⟨arr, e, fz, hb, fun i v hv => ?_⟩
    rw [List.getElem?_map] at hv
    cases hi : arr.toList[i]? with
    | none => rw [hi] at hv; cases hv
    | some v' => rw [hi] at hv; cases hv; exact ⟨v', by rw [← Array.getElem?_toList]; exact hi, cln_vr _ v'⟩
  · cases hc
abbrev rd0 (W : World) : Addr → List Value → Prop := RdF (heapW W) (fun _ => False)
def ids0 : Pa → Option Nat := fun _ => none
theorem st0 (W : World) : St (cx (heapW W) ids0 (fun _ => False) .lf) ⟨.lf, .lf, [], none⟩ .lf (heapW W) ids0 (fun _ => False) :=
  ⟨fun k o h => (by rw [heapW_get] at h; cases h), rfl, fun _ hk => hk, fun _ _ _ => rfl, fun _ _ => Iff.rfl, fun _ h => h.elim, fun a b h => (by simp at h), fun a b k h => (by simp at h), fun a a' b b' k h => (by simp at h), fun p x h => (by simp at h), fun a h => (by simp at h), rfl⟩
/-- A law that answers true, called in any world. -/
theorem calls_true {P : Program} {C : Cfg} (hm : P.follows .mixedOrders = true) (ht : TabOK P C) (ho : OrcOK P C) {f : Nat} {args : List VV} (hc : VCall C f args [] [] (vb true) []) {W : World} {vals : List Value} {vals' : Array Value}
    (ha : All2 (Vr (rd0 W) ids0) vals args) (hl : LR J0 vals vals'.toList) : Calls P f vals' W fun e W' => e = .returned (.bool true) ∧ Below W.heap.size W W' := by
  obtain ⟨v, h', ⟨n, e, l, r, hr⟩, ids', F', _, rv, _⟩ := hc (heapW W) ids0 (fun _ => False) vals (st0 W) ha
  have hv : v = .bool true := (at_inv rv).1
  subst hv
  have so := run_sound (b := false) hm ht ho n
  obtain ⟨_, h2⟩ := so.call hr (sim0 _ W) hl (fun k _ => rfl)
  rw [callsIn_wide] at h2
  refine h2.mono ?_
  rintro e w' ⟨v', J', rfl, rv, nx⟩
  have : v' = .bool true := by cases rv; rfl
  subst this
  exact ⟨rfl, nx.os, nx.tape, nx.output, nx.size, fun k hk => nx.keep k hk (fun ⟨m, o, pl, h1, _⟩ => by rw [heapW_get] at h1; cases h1)⟩

/-- A row of ints in memory. -/
def IsRow (k : IntKind) (w : World) (a : Option Addr) (len cap : Nat) (zs : List Int) : Prop :=
  (a = none ∧ len = 0 ∧ cap = 0 ∧ zs = []) ∨
  ∃ x, a = some x ∧ len ≤ cap ∧ cap ≤ maxLen ∧ zs.length = cap ∧ (∀ i, i < zs.length → w.cell? (x.add i) = some (.int k (zs.getD i 0))) ∧ ∀ n ∈ zs, (Lit.int k n).wf = true
theorem cell_base {W : World} {x : Addr} {v : Value} (h : W.cell? x = some v) : x.spot = none ∧ ∃ row, baseW W x.block = some row ∧ row[x.off]? = some (cln v) := by
  unfold World.cell? at h
  split at h
  · rename_i c e fz hb
    split at h
    · cases h
    · rename_i hs
      refine ⟨by cases hx : x.spot with
        | none => rfl
        | some t => rw [hx] at hs; simp at hs, c.toList.map cln, by simp only [baseW, hb], ?_⟩
      rw [List.getElem?_map, Array.getElem?_toList, h]; rfl
  · cases h
theorem add_zero (x : Addr) : x.add 0 = x := by unfold Addr.add; rw [if_pos rfl]
theorem add_off {x : Addr} (h : x.spot = none) (i : Nat) : x.add i = { x with off := x.off + i } := by
  obtain ⟨b, o, s⟩ := x
  simp only at h
  subst h
  unfold Addr.add
  split
  · rename_i e; subst e; rfl
  · rfl
/-- An argument that is a slice of ints. -/
theorem arg_ints {W : World} {a : Option Addr} {len cap : Nat} {zs : List Int} (h : IsRow .i64 W a len cap zs) :
    ∃ av, VR J0 av (.slice a len cap) ∧ Vr (rd0 W) ids0 av (sl1 (zs.take len)) ∧ (zs.take len).length ≤ 9223372036854775807 := by
  rcases h with ⟨rfl, rfl, rfl, rfl⟩ | ⟨x, rfl, hlc, hcm, hz, hcell, _⟩
  · exact ⟨.slice none 0 0, .slN 0 0, .p .nil, by simp⟩
  · have hml : maxLen = 9223372036854775807 := rfl
    have hlen : (zs.take len).length = len := by rw [List.length_take]; omega
    refine ⟨if cap = 0 then .slice (some ⟨0, 0, none⟩) 0 0 else .slice (some x) len cap, ?_, ?_, by omega⟩
    · split
      · rename_i h0
        have : len = 0 := by omega
        subst h0; subst this
        exact .sl 0 (Nat.le_refl _) ⟨rfl, .inl rfl⟩
      · rename_i h0
        obtain ⟨hs, _⟩ := cell_base (hcell 0 (by omega))
        rw [add_zero] at hs
        refine .sl len hlc ?_
        unfold SlR
        rw [hs]
        exact ⟨rfl, .inr rfl⟩
    · split
      · rename_i h0
        have : len = 0 := by omega
        subst this
        simp only [sl1, List.take_zero, List.length_nil, List.map_nil]
        exact .p (.sl0 trivial)
      · rename_i h0
        obtain ⟨hs, row, hrow, _⟩ := cell_base (hcell 0 (by omega))
        rw [add_zero] at hs
        rw [add_zero] at hrow
        have hget : ∀ i, i < zs.length → row[x.off + i]? = some (.int .i64 (zs.getD i 0)) := by
          intro i hi
          obtain ⟨_, row', hrow', hr'⟩ := cell_base (hcell i hi)
          rw [add_off hs] at hrow' hr'
          simp only at hrow' hr'
          rw [hrow] at hrow'; cases hrow'
          exact hr'
        rw [sl1, hlen]
        refine .p (.sl (row := row) ?_ hlc ?_ ?_ ?_)
        · unfold tgOk; rw [hs]; trivial
        · show RdF _ _ _ _
          unfold RdF; rw [hs]; exact hrow
        · rw [List.length_map, hlen]
          rcases Nat.eq_zero_or_pos len with h | h
          · have := (List.getElem?_eq_some_iff.1 (hget 0 (by omega))).1; omega
          · have := (List.getElem?_eq_some_iff.1 (hget (len - 1) (by omega))).1; omega
        · intro i y z hy hzz
          rw [List.getElem?_map] at hzz
          cases hi : (zs.take len)[i]? with
          | none => rw [hi] at hzz; cases hzz
          | some q =>
            rw [hi] at hzz; cases hzz
            have hlt := (List.getElem?_eq_some_iff.1 hi).1
            rw [hlen] at hlt
            rw [hget i (by omega)] at hy
            cases hy
            rw [List.getElem?_take, if_pos hlt] at hi
            rw [List.getD_eq_getElem?_getD, hi]
            exact .at rfl
end Go.Ab.V

namespace Go.Proofs.Ytcbhobkfffgfdaa.jugSteps
open Go.ChangeShapes Go.WideShapes Go.ChangeAt Go.RowKit
open Go.ChangeMaps (open_string shut_string)
open Go.Ab Go.Ab.V Go.Ab.Jug
set_option linter.unusedVariables false
theorem own : ownKnob Try.prog.godebug = none := by kernel_rfl
theorem laidOut : laidOutB Try.prog = true := by kernel_rfl
theorem orc : OrcOK Try.prog cfg := orcOK mixed tab0 (fun h => by cases h) rfl awake_closed
theorem tab : TabOK Try.prog cfg := tab0
set_option maxRecDepth 100000 in
theorem lifted (os : Os) (started : os.Started) (H : Type) (enc : TypeId × Value → H) :
    ReturnsInHanded {} Try.checked os 3 .any (Rows.jugStepsSpec.pre6 enc Try.prog Try.f3 Rows.jugStepsRow.domain false) (Rows.jugStepsSpec.post enc Try.prog Try.f3 false true false false) := by
  refine returnsInHanded_of_change (C := Try.checked) own started (by kernel_rfl) Try.func3
    (ChangeSpec.witness6 (enc := enc) (C := Try.checked) false ⟨#[], #[.slice none 0 0, .slice none 0 0], []⟩ 8 (by kernel_rfl) (by kernel_rfl) (by kernel_rfl) (by kernel_rfl)) ?_
  intro W base args ds gs before hval0 hW hcnd _
  have hval : ∀ (j : Nat) t v, Try.f3.params[j]? = some t → args[j]? = some v → Value.okWide Try.prog W .any base t v := hval0
  have hW' := hW
  obtain ⟨p, q, hA0, hV, rfl, hfz, hnd⟩ := hW
  have hA : DataW.TrodAll enc Try.prog W 0 (fun _ => true) true Try.f3.params.toList args.toList ds p := hA0
  rw [Try.params3] at hA hval
  obtain ⟨v0, vs0, d0, ds0, p0, q0, hargs, rfl, rfl, h0, r0⟩ := trodAll_cons hA
  obtain ⟨v1, vs1, d1, ds1, p1, q1, rfl, rfl, rfl, h1, r1⟩ := trodAll_cons r0
  obtain ⟨rfl, rfl, rfl⟩ := trodAll_nil r1
  obtain rfl : args = #[v0, v1] := by cases args; simp_all
  obtain ⟨rfl, rfl⟩ := trodVars_none hV
  obtain ⟨a0, len0, cap0, rfl⟩ := okWide_slice Try.underlying22 (hval 0 22 v0 rfl rfl)
  have k0 := h0
  have lt0 : ∀ x ∈ p0, x.block < W.heap.size := by obtain ⟨m, hm⟩ := k0; exact DataW.trod_lt m _ _ _ hm
  obtain ⟨z0, w0⟩ : ∃ zs, V.IsRow .i64 W a0 len0 cap0 zs := by
    obtain ⟨fuel, hf⟩ := h0
    rcases open_ints Try.underlying22 Try.underlying3 (by kernel_rfl) hf with ⟨hcs, _⟩ | ⟨x, l, c, zs, hcs, _, hl, hm, hz, _, hcell, hwz⟩
    · simp [Value.cells] at hcs
      obtain ⟨rfl, rfl, rfl⟩ := hcs
      exact ⟨[], .inl ⟨rfl, rfl, rfl, rfl⟩⟩
    · simp [Value.cells] at hcs
      obtain ⟨rfl, rfl, rfl⟩ := hcs
      exact ⟨zs, .inr ⟨_, rfl, hl, hm, by simpa using hz, hcell, hwz⟩⟩
  obtain ⟨av0, ar0, ap0, al0⟩ := arg_ints w0
  obtain ⟨a1, len1, cap1, rfl⟩ := okWide_slice Try.underlying22 (hval 1 22 v1 rfl rfl)
  have k1 := h1
  have lt1 : ∀ x ∈ p1, x.block < W.heap.size := by obtain ⟨m, hm⟩ := k1; exact DataW.trod_lt m _ _ _ hm
  obtain ⟨z1, w1⟩ : ∃ zs, V.IsRow .i64 W a1 len1 cap1 zs := by
    obtain ⟨fuel, hf⟩ := h1
    rcases open_ints Try.underlying22 Try.underlying3 (by kernel_rfl) hf with ⟨hcs, _⟩ | ⟨x, l, c, zs, hcs, _, hl, hm, hz, _, hcell, hwz⟩
    · simp [Value.cells] at hcs
      obtain ⟨rfl, rfl, rfl⟩ := hcs
      exact ⟨[], .inl ⟨rfl, rfl, rfl, rfl⟩⟩
    · simp [Value.cells] at hcs
      obtain ⟨rfl, rfl, rfl⟩ := hcs
      exact ⟨zs, .inr ⟨_, rfl, hl, hm, by simpa using hz, hcell, hwz⟩⟩
  obtain ⟨av1, ar1, ap1, al1⟩ := arg_ints w1
  clear hA0 hval0
  refine (calls_true mixed tab orc (steps_law _ _ al0 al1) (All2.cons ap0 (All2.cons ap1 .nil)) (LR.cons ar0 (LR.cons ar1 (LR.nil _)))).mono fun e W' ⟨he, bel⟩ => ?_
  subst he
  exact ⟨_, rfl, _, _, _, [], _, [], hW', trodAll_mk1 (shut_bool Try.underlying4 _), (trodAll_cons_mk (Below.trod laidOut (by kernel_rfl) (of_decide_eq_true (by kernel_rfl)) k0 bel lt0) (trodAll_cons_mk (Below.trod laidOut (by kernel_rfl) (of_decide_eq_true (by kernel_rfl)) k1 bel lt1) trodAll_mk0)), rfl, bel.frame _, fun h => by cases h⟩
theorem over : Rows.jugStepsRow.holds Try.pinned (OpenSpec.ofChange Rows.jugStepsSpec) :=
  OpenClaim.holds_of_wide 3 Try.f3 rfl rfl rfl rfl rfl rfl rfl ⟨rfl, rfl, rfl, rfl, rfl⟩ rfl rfl rfl rfl rfl (by kernel_rfl) Try.func3 (by kernel_rfl)
    (of_decide_eq_true (by kernel_rfl)) (by unfold Func.isWrapper; first | (rw [if_pos (by decide +kernel)]; kernel_rfl) | (rw [if_neg (by decide +kernel)]; exact ⟨rfl, rfl⟩))
    (fun os started H enc _ => lifted os started H enc)
theorem proved : Rows.JugStepsSaid := over
end Go.Proofs.Ytcbhobkfffgfdaa.jugSteps
namespace Go.Proofs.Ytcbhobkfffgfdaa
/-- The row, under a short name, for the claim. -/
theorem jugSteps_holds : Rows.JugStepsSaid := jugSteps.proved
end Go.Proofs.Ytcbhobkfffgfdaa
