/- Proved: for every input the law JugPours returns true, and each argument reads afterwards as it read before. No condition. -/
import Derived.Below
import Derived.CallsIn
import Derived.ChangeSlices
import Derived.ChangeArms
import Derived.Test.YtcbhobkfffgfdaaRows
import Derived.WalkKit
import Derived.ProofKit
import Derived.OpenShut
import Derived.ShutString
import Derived.ChangeOld
import Derived.Carry
import Derived.Test.YtcbhobkfffgfdaaA04
set_option linter.unusedSimpArgs false
set_option linter.unusedVariables false
namespace Go.Ab.Jug
open Go.Ab.V
set_option maxRecDepth 100000
def itemS (n : Nat) (q f : List Int) (c : Bool) (a b : Int) : List (List VV) := if isS n c a b = true ∧ doS q f a b ≠ f then [[ag2 a b, .agg ((doS q f a b).map vi)]] else []
def rowS (n : Nat) (q f : List Int) (c : Bool) (a : Int) : Nat → List (List VV)
  | 0 => []
  | m + 1 => itemS n q f c a ((n : Int) - ((m + 1 : Nat) : Int)) ++ rowS n q f c a m
def allS (n : Nat) (q f : List Int) (c : Bool) : Nat → List (List VV)
  | 0 => []
  | k + 1 => rowS n q f c ((n : Int) - ((k + 1 : Nat) : Int)) (n + 1) ++ allS n q f c k
section
variable {n : Nat} {q0 q1 q2 q3 f0 f1 f2 f3 : Int} {c : Bool}
theorem eqV4 {a0 a1 a2 a3 b0 b1 b2 b3 : Int} : eqV (.cells [.int, .int, .int, .int]) (.agg [.p (.at (.int .i64 a0)), .p (.at (.int .i64 a1)), .p (.at (.int .i64 a2)), .p (.at (.int .i64 a3))]) (.agg [.p (.at (.int .i64 b0)), .p (.at (.int .i64 b1)), .p (.at (.int .i64 b2)), .p (.at (.int .i64 b3))]) = some (decide ([a0, a1, a2, a3] = [b0, b1, b2, b3])) := by
  show some ((a0 == b0) && ((a1 == b1) && ((a2 == b2) && ((a3 == b3) && true)))) = _
  congr 1
  rw [Bool.eq_iff_iff]
  simp
set_option maxHeartbeats 4000000 in
theorem steps1_ok (hn : n ≤ 4) (h0 : 0 ≤ f0 ∧ f0 ≤ q0 ∧ q0 ≤ 12) (h1 : 0 ≤ f1 ∧ f1 ≤ q1 ∧ q1 ≤ 12) (h2 : 0 ≤ f2 ∧ f2 ≤ q2 ∧ q2 ≤ 12) (h3 : 0 ≤ f3 ∧ f3 ≤ q3 ∧ q3 ≤ 12) :
    VIter cfg 65 [] [.p (.fp 0 [.fp 0 (jugQ n q0 q1 q2 q3 c)]), .p (.fp 0 [pi f0, pi f1, pi f2, pi f3])] false (allS n [q0, q1, q2, q3] [f0, f1, f2, f3] c (n + 1)) := by
  refine VIter.mk (fn := a65) rfl rfl rfl fun kk => ?_
  simp only [a65, inV, PT.set, List.nil_append, List.cons_append]
  (repeat (first | refine VC.seq ?_ | refine VC.block ?_ | refine VC.kill ?_ | refine VC.skip ?_ | refine VC.exit ?_ | refine VC.regA ?_ | refine VC.condT ?_ | refine VC.condF ?_))
  refine VC.loopG (fun (k : Nat) => ⟨inV [p0, p1, p2, p4] [.yl kk, .p (.fp 0 [.fp 0 (jugQ n q0 q1 q2 q3 c)]), .p (.fp 0 [pi f0, pi f1, pi f2, pi f3]), vi ((n : Int) - (k : Int))] .lf, .lf, [], some ⟨kk, allS n [q0, q1, q2, q3] [f0, f1, f2, f3] c k, true, false⟩⟩) (fun m k => m = k ∧ k ≤ n + 1) (x := n + 1) ?_ ⟨rfl, by omega⟩ ?_
  · (apply G.weak; constructor <;> simp (config := {decide := true}) only [PT.Le, inV, mkB, PT.set, VSt.kill, VSt.adopt, VSt.alloc, PT.filt, PT.map, List.map_cons, List.map_nil, noref, norefB, deadB, deadV, nos, nm, nmL, nmB, nmE, Pa.eqb, cond_true, cond_false, Bool.not_true, Bool.not_false, Bool.and_true, Bool.true_and, nmL_vi, flV_len, flP_len, flV_nm, flV_ok, flV_pv, flP_map, drop_flP, drop_flV, putC_flV, eqV2, eqV3, bneT, bneF, decide_true, decide_false, frzL_vi, frzL_flV, eqV_slice, eqV_ptr, eqV_func, nilS, nilP, nilF, nmL_append, true_or, or_true, and_self, true_and, and_true, Option.some.injEq, reduceCtorEq, false_or, or_false, VV.p.injEq, PV.at.injEq, Value.int.injEq, sl1, vi, bl1, vb, nilV, pi, jugQ])
    all_goals omega
  rintro m k ⟨hm, hk⟩
  simp only [inV, PT.set, jugQ]
  (repeat (first | refine VC.seq ?_ | refine VC.block ?_ | refine VC.kill ?_ | refine VC.skip ?_ | refine VC.exit ?_ | refine VC.regA ?_ | refine VC.condT ?_ | refine VC.condF ?_))
  refine VC.condA ?_ ?_ <;> intro h <;> (simp only [decide_eq_true_eq, decide_eq_false_iff_not, bne_iff_ne, ne_eq, bne_eq_false_iff_eq, beq_iff_eq, beq_eq_false_iff_ne, Bool.not_eq_true', Bool.not_eq_false', Bool.and_eq_true, Bool.or_eq_true, Int.natCast_inj] at h)
  · obtain ⟨k, rfl⟩ : ∃ j, k = j + 1 := ⟨k - 1, by omega⟩
    (repeat (first | refine VC.seq ?_ | refine VC.block ?_ | refine VC.kill ?_ | refine VC.skip ?_ | refine VC.exit ?_ | refine VC.regA ?_ | refine VC.condT ?_ | refine VC.condF ?_))
    have hA : -1 ≤ (n : Int) - ((k + 1 : Nat) : Int) ∧ (n : Int) - ((k + 1 : Nat) : Int) < n := by omega
    have hall : allS n [q0, q1, q2, q3] [f0, f1, f2, f3] c (k + 1) = rowS n [q0, q1, q2, q3] [f0, f1, f2, f3] c ((n : Int) - ((k + 1 : Nat) : Int)) (n + 1) ++ allS n [q0, q1, q2, q3] [f0, f1, f2, f3] c k := rfl
    generalize hAa : (n : Int) - ((k + 1 : Nat) : Int) = A at *
    rw [hall]
    refine VC.loopG (fun (m : Nat) => ⟨inV [p0, p1, p2, p4, p5] [.yl kk, .p (.fp 0 [.fp 0 (jugQ n q0 q1 q2 q3 c)]), .p (.fp 0 [pi f0, pi f1, pi f2, pi f3]), vi A, vi ((n : Int) - (m : Int))] .lf, .lf, [], some ⟨kk, rowS n [q0, q1, q2, q3] [f0, f1, f2, f3] c A m ++ allS n [q0, q1, q2, q3] [f0, f1, f2, f3] c k, true, false⟩⟩) (fun m' m => m' = m ∧ m ≤ n + 1) (x := n + 1) ?_ ⟨rfl, by omega⟩ ?_
    · (apply G.weak; constructor <;> simp (config := {decide := true}) only [PT.Le, inV, mkB, PT.set, VSt.kill, VSt.adopt, VSt.alloc, PT.filt, PT.map, List.map_cons, List.map_nil, noref, norefB, deadB, deadV, nos, nm, nmL, nmB, nmE, Pa.eqb, cond_true, cond_false, Bool.not_true, Bool.not_false, Bool.and_true, Bool.true_and, nmL_vi, flV_len, flP_len, flV_nm, flV_ok, flV_pv, flP_map, drop_flP, drop_flV, putC_flV, eqV2, eqV3, bneT, bneF, decide_true, decide_false, frzL_vi, frzL_flV, eqV_slice, eqV_ptr, eqV_func, nilS, nilP, nilF, nmL_append, true_or, or_true, and_self, true_and, and_true, Option.some.injEq, reduceCtorEq, false_or, or_false, VV.p.injEq, PV.at.injEq, Value.int.injEq, sl1, vi, bl1, vb, nilV, pi, jugQ])
      all_goals omega
    rintro m' m ⟨hm', hmm⟩
    simp only [inV, PT.set, jugQ]
    (repeat (first | refine VC.seq ?_ | refine VC.block ?_ | refine VC.kill ?_ | refine VC.skip ?_ | refine VC.exit ?_ | refine VC.regA ?_ | refine VC.condT ?_ | refine VC.condF ?_))
    refine VC.condA ?_ ?_ <;> intro h' <;> (simp only [decide_eq_true_eq, decide_eq_false_iff_not, bne_iff_ne, ne_eq, bne_eq_false_iff_eq, beq_iff_eq, beq_eq_false_iff_ne, Bool.not_eq_true', Bool.not_eq_false', Bool.and_eq_true, Bool.or_eq_true, Int.natCast_inj] at h')
    · obtain ⟨m, rfl⟩ : ∃ j, m = j + 1 := ⟨m - 1, by omega⟩
      have hB : -1 ≤ (n : Int) - ((m + 1 : Nat) : Int) ∧ (n : Int) - ((m + 1 : Nat) : Int) < n := by omega
      have hrow : rowS n [q0, q1, q2, q3] [f0, f1, f2, f3] c A (m + 1) = itemS n [q0, q1, q2, q3] [f0, f1, f2, f3] c A ((n : Int) - ((m + 1 : Nat) : Int)) ++ rowS n [q0, q1, q2, q3] [f0, f1, f2, f3] c A m := rfl
      rw [hrow]
      generalize hBb : (n : Int) - ((m + 1 : Nat) : Int) = B at *
      have k1 := is_ok (n := n) (q0 := q0) (q1 := q1) (q2 := q2) (q3 := q3) (c := c) (a := A) (b := B) (by omega) (by omega) hn
      simp only [jugQ, ag2] at k1
      cases hs : isS n c A B with
      | false =>
        rw [hs] at k1
        have : itemS n [q0, q1, q2, q3] [f0, f1, f2, f3] c A B = [] := by simp [itemS, hs]
        rw [this]
        (repeat (first | refine VC.seq ?_ | refine VC.block ?_ | refine VC.kill ?_ | refine VC.skip ?_ | refine VC.exit ?_ | refine VC.regA ?_ | refine VC.condT ?_ | refine VC.condF ?_))
        refine VC.regCA ?_
        refine VO.moreA ?_
        refine VO.call0A (no_orc 61 (by decide)) k1 ?_
        refine VO.endA ?_
        (repeat (first | refine VC.seq ?_ | refine VC.block ?_ | refine VC.kill ?_ | refine VC.skip ?_ | refine VC.exit ?_ | refine VC.regA ?_ | refine VC.condT ?_ | refine VC.condF ?_))
        refine ⟨_, m, ?_, ⟨rfl, by omega⟩, ?_⟩
        · omega
        · (apply G.weak; constructor <;> simp (config := {decide := true}) only [PT.Le, inV, mkB, PT.set, VSt.kill, VSt.adopt, VSt.alloc, PT.filt, PT.map, List.map_cons, List.map_nil, noref, norefB, deadB, deadV, nos, nm, nmL, nmB, nmE, Pa.eqb, cond_true, cond_false, Bool.not_true, Bool.not_false, Bool.and_true, Bool.true_and, nmL_vi, flV_len, flP_len, flV_nm, flV_ok, flV_pv, flP_map, drop_flP, drop_flV, putC_flV, eqV2, eqV3, bneT, bneF, decide_true, decide_false, frzL_vi, frzL_flV, eqV_slice, eqV_ptr, eqV_func, nilS, nilP, nilF, nmL_append, true_or, or_true, and_self, true_and, and_true, Option.some.injEq, reduceCtorEq, false_or, or_false, VV.p.injEq, PV.at.injEq, Value.int.injEq, sl1, vi, bl1, vb, nilV, pi, jugQ])
          all_goals omega
      | true =>
        rw [hs] at k1
        have hab : A ≠ B := by intro e; simp [isS, e] at hs
        have k2 := do_ok (n := n) (c := c) (a := A) (b := B) (by omega) (by omega) hab h0 h1 h2 h3
        obtain ⟨g0, g1, g2, g3, hg⟩ : ∃ g0 g1 g2 g3, doS [q0, q1, q2, q3] [f0, f1, f2, f3] A B = [g0, g1, g2, g3] := by
          have hl : (doS [q0, q1, q2, q3] [f0, f1, f2, f3] A B).length = 4 := by unfold doS; split <;> (try split) <;> simp
          generalize doS [q0, q1, q2, q3] [f0, f1, f2, f3] A B = P at hl
          rcases P with _ | ⟨a, _ | ⟨b, _ | ⟨d, _ | ⟨e, _ | ⟨f, r⟩⟩⟩⟩⟩ <;> first | exact ⟨_, _, _, _, rfl⟩ | simp at hl
        have hit : itemS n [q0, q1, q2, q3] [f0, f1, f2, f3] c A B = if [g0, g1, g2, g3] ≠ [f0, f1, f2, f3] then [[.agg [vi A, vi B], .agg [vi g0, vi g1, vi g2, vi g3]]] else [] := by
          simp only [itemS, hs, hg, true_and]; rfl
        rw [hg] at k2
        simp only [jugQ, ag2, ag4, List.map_cons, List.map_nil] at k2
        rw [hit]
        (repeat (first | refine VC.seq ?_ | refine VC.block ?_ | refine VC.kill ?_ | refine VC.skip ?_ | refine VC.exit ?_ | refine VC.regA ?_ | refine VC.condT ?_ | refine VC.condF ?_))
        refine VC.regCA ?_
        refine VO.moreA ?_
        refine VO.call0A (no_orc 61 (by decide)) k1 ?_
        refine VO.endA ?_
        (repeat (first | refine VC.seq ?_ | refine VC.block ?_ | refine VC.kill ?_ | refine VC.skip ?_ | refine VC.exit ?_ | refine VC.regA ?_ | refine VC.condT ?_ | refine VC.condF ?_))
        refine VC.regCA ?_
        refine VO.moreA ?_
        refine VO.call0A (no_orc 62 (by decide)) k2 ?_
        refine VO.endA ?_
        (repeat (first | refine VC.seq ?_ | refine VC.block ?_ | refine VC.kill ?_ | refine VC.skip ?_ | refine VC.exit ?_ | refine VC.regA ?_ | refine VC.condT ?_ | refine VC.condF ?_))
        have bT : (true != true) = false := rfl
        have bF : (false != true) = true := rfl
        by_cases hd : [g0, g1, g2, g3] = [f0, f1, f2, f3]
        · have e4 := eqV4 (a0 := g0) (a1 := g1) (a2 := g2) (a3 := g3) (b0 := f0) (b1 := f1) (b2 := f2) (b3 := f3)
          rw [decide_eq_true hd] at e4
          rw [if_neg (fun h => h hd)]
          apply VC.regU
          · (simp (config := {decide := false, maxSteps := 1000000}) (disch := omega) only [vev_call, putC_c0, putC_n0, putC_cs, ble0, List.getElem?_cons_zero, List.getElem?_cons_succ, runU, isCall, wantV, vev, evV, ofVal, ofAtom, atomB, cond_true, cond_false, PT.get, PT.set, PT.filt, PT.map, Option.getD_some, Option.getD_none, ret1V, ret1X, v_ld, v_ias, v_iad, v_fad, v_slsl, v_slarr, v_st, v_app, v_cpy, v_len, v_look, v_mset, elsV, partV, newV, free, atV, atI, atL, toVal, cellsV, okV, VSt.put, VSt.kill, VSt.alloc, VSt.frz, VSt.adopt, noref, norefB, deadB, deadV, nos, nm, nmL, nmB, nmE, Pa.eqb, Bool.not_false, Bool.not_true, Bool.and_true, Bool.true_and, Bool.false_and, Bool.and_false, bin, intOps, intBin, cvt, un, goInt, bndsV, bndV, Option.map_some, Option.map_none, List.map_cons, List.map_nil, Int.toNat_natCast, Nat.mul_one, Nat.zero_add, beq_true, beq_false, beq_self_eq_true, List.length_map, List.length_cons, List.length_nil, List.length_append, fillV, pEvV, repsV, List.append_nil, List.nil_append, if_pos, if_neg, reduceIte, List.getElem?_map, List.getElem?_drop, Nat.add_zero, List.getElem?_eq_getElem, Go.IntWalk.i64_in, wrap_u64, tmod_pos, eq_self, true_and, and_true, and_self, List.all_cons, List.all_nil, nmL_vi, flV_len, flP_len, flV_nm, flV_ok, flV_pv, flP_map, drop_flP, drop_flV, putC_flV, eqV2, eqV3, bneT, bneF, decide_true, decide_false, frzL_vi, frzL_flV, eqV_slice, eqV_ptr, eqV_func, nilS, nilP, nilF, nmL_append, okL_vi, toPVs_vi, toPVs, toPV, frzV, frzL, frzB, resVV, vi, vb, nilV, sl1, bl1, pi, foldV, max2, min2, max_eq, min_eq, Int.tdiv_eq_ediv_of_nonneg, Int.cast_ofNat_Int, Option.isSome_none, Option.isSome_some, Option.isNone_none, Option.isNone_some, and_false, false_and, sl2, sl1P, slP, min_cast, take_map_pi, map_pi, Nat.sub_zero, Nat.zero_mul, List.length_take, decide_eq_true, decide_eq_false, Bool.true_eq_false, Bool.false_eq_true, beqT, beqF, ibeq, ibne, List.take_zero, List.take_succ_cons, List.drop_zero, List.drop_succ_cons, List.drop_nil, List.take_nil, List.cons_append, Bool.not_true, Bool.not_false, e4, bT, bF])
            rfl
          (repeat (first | refine VC.seq ?_ | refine VC.block ?_ | refine VC.kill ?_ | refine VC.skip ?_ | refine VC.exit ?_ | refine VC.regA ?_ | refine VC.condT ?_ | refine VC.condF ?_))
          refine ⟨_, m, ?_, ⟨rfl, by omega⟩, ?_⟩
          · omega
          · (apply G.weak; constructor <;> simp (config := {decide := true}) only [PT.Le, inV, mkB, PT.set, VSt.kill, VSt.adopt, VSt.alloc, PT.filt, PT.map, List.map_cons, List.map_nil, noref, norefB, deadB, deadV, nos, nm, nmL, nmB, nmE, Pa.eqb, cond_true, cond_false, Bool.not_true, Bool.not_false, Bool.and_true, Bool.true_and, nmL_vi, flV_len, flP_len, flV_nm, flV_ok, flV_pv, flP_map, drop_flP, drop_flV, putC_flV, eqV2, eqV3, bneT, bneF, decide_true, decide_false, frzL_vi, frzL_flV, eqV_slice, eqV_ptr, eqV_func, nilS, nilP, nilF, nmL_append, true_or, or_true, and_self, true_and, and_true, Option.some.injEq, reduceCtorEq, false_or, or_false, VV.p.injEq, PV.at.injEq, Value.int.injEq, sl1, vi, bl1, vb, nilV, pi, jugQ])
            all_goals omega
        · have e4 := eqV4 (a0 := g0) (a1 := g1) (a2 := g2) (a3 := g3) (b0 := f0) (b1 := f1) (b2 := f2) (b3 := f3)
          rw [decide_eq_false hd] at e4
          rw [if_pos hd]
          apply VC.regC
          · (simp (config := {decide := false, maxSteps := 1000000}) (disch := omega) only [vev_call, putC_c0, putC_n0, putC_cs, ble0, List.getElem?_cons_zero, List.getElem?_cons_succ, runU, isCall, wantV, vev, evV, ofVal, ofAtom, atomB, cond_true, cond_false, PT.get, PT.set, PT.filt, PT.map, Option.getD_some, Option.getD_none, ret1V, ret1X, v_ld, v_ias, v_iad, v_fad, v_slsl, v_slarr, v_st, v_app, v_cpy, v_len, v_look, v_mset, elsV, partV, newV, free, atV, atI, atL, toVal, cellsV, okV, VSt.put, VSt.kill, VSt.alloc, VSt.frz, VSt.adopt, noref, norefB, deadB, deadV, nos, nm, nmL, nmB, nmE, Pa.eqb, Bool.not_false, Bool.not_true, Bool.and_true, Bool.true_and, Bool.false_and, Bool.and_false, bin, intOps, intBin, cvt, un, goInt, bndsV, bndV, Option.map_some, Option.map_none, List.map_cons, List.map_nil, Int.toNat_natCast, Nat.mul_one, Nat.zero_add, beq_true, beq_false, beq_self_eq_true, List.length_map, List.length_cons, List.length_nil, List.length_append, fillV, pEvV, repsV, List.append_nil, List.nil_append, if_pos, if_neg, reduceIte, List.getElem?_map, List.getElem?_drop, Nat.add_zero, List.getElem?_eq_getElem, Go.IntWalk.i64_in, wrap_u64, tmod_pos, eq_self, true_and, and_true, and_self, List.all_cons, List.all_nil, nmL_vi, flV_len, flP_len, flV_nm, flV_ok, flV_pv, flP_map, drop_flP, drop_flV, putC_flV, eqV2, eqV3, bneT, bneF, decide_true, decide_false, frzL_vi, frzL_flV, eqV_slice, eqV_ptr, eqV_func, nilS, nilP, nilF, nmL_append, okL_vi, toPVs_vi, toPVs, toPV, frzV, frzL, frzB, resVV, vi, vb, nilV, sl1, bl1, pi, foldV, max2, min2, max_eq, min_eq, Int.tdiv_eq_ediv_of_nonneg, Int.cast_ofNat_Int, Option.isSome_none, Option.isSome_some, Option.isNone_none, Option.isNone_some, and_false, false_and, sl2, sl1P, slP, min_cast, take_map_pi, map_pi, Nat.sub_zero, Nat.zero_mul, List.length_take, decide_eq_true, decide_eq_false, Bool.true_eq_false, Bool.false_eq_true, beqT, beqF, ibeq, ibne, List.take_zero, List.take_succ_cons, List.drop_zero, List.drop_succ_cons, List.drop_nil, List.take_nil, List.cons_append, Bool.not_true, Bool.not_false, e4, bT, bF])
            rfl
          refine VO.yieldA fun b _ => ?_
          cases b with
          | false =>
            refine VO.endA ?_
            (repeat (first | refine VC.seq ?_ | refine VC.block ?_ | refine VC.kill ?_ | refine VC.skip ?_ | refine VC.exit ?_ | refine VC.regA ?_ | refine VC.condT ?_ | refine VC.condF ?_))
            exact VC.ret ⟨rfl, _, _, rfl, .inl rfl⟩
          | true =>
            refine VO.endA ?_
            (repeat (first | refine VC.seq ?_ | refine VC.block ?_ | refine VC.kill ?_ | refine VC.skip ?_ | refine VC.exit ?_ | refine VC.regA ?_ | refine VC.condT ?_ | refine VC.condF ?_))
            refine ⟨_, m, ?_, ⟨rfl, by omega⟩, ?_⟩
            · omega
            · (apply G.weak; constructor <;> simp (config := {decide := true}) only [PT.Le, inV, mkB, PT.set, VSt.kill, VSt.adopt, VSt.alloc, PT.filt, PT.map, List.map_cons, List.map_nil, noref, norefB, deadB, deadV, nos, nm, nmL, nmB, nmE, Pa.eqb, cond_true, cond_false, Bool.not_true, Bool.not_false, Bool.and_true, Bool.true_and, nmL_vi, flV_len, flP_len, flV_nm, flV_ok, flV_pv, flP_map, drop_flP, drop_flV, putC_flV, eqV2, eqV3, bneT, bneF, decide_true, decide_false, frzL_vi, frzL_flV, eqV_slice, eqV_ptr, eqV_func, nilS, nilP, nilF, nmL_append, true_or, or_true, and_self, true_and, and_true, Option.some.injEq, reduceCtorEq, false_or, or_false, VV.p.injEq, PV.at.injEq, Value.int.injEq, sl1, vi, bl1, vb, nilV, pi, jugQ])
              all_goals omega
    · have : m = 0 := by omega
      subst this
      simp only [rowS, List.nil_append]
      (repeat (first | refine VC.seq ?_ | refine VC.block ?_ | refine VC.kill ?_ | refine VC.skip ?_ | refine VC.exit ?_ | refine VC.regA ?_ | refine VC.condT ?_ | refine VC.condF ?_))
      refine ⟨_, k, ?_, ⟨rfl, by omega⟩, ?_⟩
      · omega
      · (apply G.weak; constructor <;> simp (config := {decide := true}) only [PT.Le, inV, mkB, PT.set, VSt.kill, VSt.adopt, VSt.alloc, PT.filt, PT.map, List.map_cons, List.map_nil, noref, norefB, deadB, deadV, nos, nm, nmL, nmB, nmE, Pa.eqb, cond_true, cond_false, Bool.not_true, Bool.not_false, Bool.and_true, Bool.true_and, nmL_vi, flV_len, flP_len, flV_nm, flV_ok, flV_pv, flP_map, drop_flP, drop_flV, putC_flV, eqV2, eqV3, bneT, bneF, decide_true, decide_false, frzL_vi, frzL_flV, eqV_slice, eqV_ptr, eqV_func, nilS, nilP, nilF, nmL_append, true_or, or_true, and_self, true_and, and_true, Option.some.injEq, reduceCtorEq, false_or, or_false, VV.p.injEq, PV.at.injEq, Value.int.injEq, sl1, vi, bl1, vb, nilV, pi, jugQ])
        all_goals omega
  · have : k = 0 := by omega
    subst this
    (repeat (first | refine VC.seq ?_ | refine VC.block ?_ | refine VC.kill ?_ | refine VC.skip ?_ | refine VC.exit ?_ | refine VC.regA ?_ | refine VC.condT ?_ | refine VC.condF ?_))
    exact ⟨rfl, _, _, rfl, .inr ⟨rfl, trivial⟩⟩
end
end Go.Ab.Jug

namespace Go.Ab.Jug
open Go.Ab.V
set_option maxRecDepth 100000
section
variable {n : Nat} {q0 q1 q2 q3 f0 f1 f2 f3 : Int} {c : Bool}
theorem steps_ok : VCall cfg 47 [.p (.fp 0 (jugQ n q0 q1 q2 q3 c)), ag4 f0 f1 f2 f3] [] [] (.clos 65 [] [.p (.fp 0 [.fp 0 (jugQ n q0 q1 q2 q3 c)]), .p (.fp 0 [pi f0, pi f1, pi f2, pi f3])]) [] := by
  (refine VCall.mk (fn := a47) rfl rfl rfl ?_; simp only [a47, inV, mkB, nmsL, PT.set])
  simp only [ag4, jugQ]
  (repeat (first | refine VC.seq ?_ | refine VC.block ?_ | refine VC.kill ?_ | refine VC.skip ?_ | refine VC.exit ?_ | refine VC.regA ?_ | refine VC.condT ?_ | refine VC.condF ?_))
  exact VC.ret (Fin.frzA p2 (hb := rfl) (hc := rfl) (Fin.frzA p3 (hb := rfl) (hc := rfl) (Fin.A rfl)))
end
end Go.Ab.Jug

namespace Go.Ab.Jug
open Go.Ab.V
set_option maxRecDepth 100000
theorem equal_ok (a b : List Int) (hab : a.length = b.length) (hl : a.length ≤ 9223372036854775807) : VCall cfg 50 [sl1 a, sl1 b] [] [] (vb (decide (a = b))) [] := by
  generalize hr : decide (a = b) = r
  (refine VCall.mk (fn := a50) rfl rfl rfl ?_; simp only [a50, inV, mkB, nmsL, PT.set])
  (repeat (first | refine VC.seq ?_ | refine VC.block ?_ | refine VC.kill ?_ | refine VC.skip ?_ | refine VC.exit ?_ | refine VC.regA ?_ | refine VC.condT ?_ | refine VC.condF ?_))
  refine VC.loopG (fun (i : Nat) => ⟨inV [p0, p1, p5] [sl1 a, sl1 b, vi i] .lf, .lf, [], none⟩) (fun n i => n = a.length - i ∧ i ≤ a.length ∧ ∀ (k : Nat) (h : k < a.length) (h' : k < b.length), k < i → a[k] = b[k]) (x := 0) ?_ ⟨rfl, by omega, fun k _ _ h => by omega⟩ ?_
  · (apply G.weak; constructor <;> simp (config := {decide := true}) only [PT.Le, inV, mkB, PT.set, VSt.kill, VSt.adopt, VSt.alloc, PT.filt, PT.map, List.map_cons, List.map_nil, noref, norefB, deadB, deadV, nos, nm, nmL, nmB, nmE, Pa.eqb, cond_true, cond_false, Bool.not_true, Bool.not_false, Bool.and_true, Bool.true_and, nmL_vi, flV_len, flP_len, flV_nm, flV_ok, flV_pv, flP_map, drop_flP, drop_flV, putC_flV, eqV2, eqV3, bneT, bneF, decide_true, decide_false, frzL_vi, frzL_flV, eqV_slice, eqV_ptr, eqV_func, nilS, nilP, nilF, nmL_append, true_or, or_true, and_self, true_and, and_true, Option.some.injEq, reduceCtorEq, false_or, or_false, VV.p.injEq, PV.at.injEq, Value.int.injEq, sl1, vi, bl1, vb, nilV])
  rintro n i ⟨hn, hi, hx⟩
  simp only [inV, PT.set]
  (repeat (first | refine VC.seq ?_ | refine VC.block ?_ | refine VC.kill ?_ | refine VC.skip ?_ | refine VC.exit ?_ | refine VC.regA ?_ | refine VC.condT ?_ | refine VC.condF ?_))
  refine VC.condA ?_ ?_ <;> intro h <;> (simp only [decide_eq_true_eq, decide_eq_false_iff_not, bne_iff_ne, ne_eq, bne_eq_false_iff_eq, beq_iff_eq, beq_eq_false_iff_ne, Bool.not_eq_true', Bool.not_eq_false', Bool.and_eq_true, Bool.or_eq_true, Int.natCast_inj] at h)
  · have h : i < a.length := by omega
    have h' : i < b.length := by omega
    by_cases h1 : a[i] = b[i]
    · have h2 : ¬(a[i] ≠ b[i]) := fun h => h h1
      (repeat (first | refine VC.seq ?_ | refine VC.block ?_ | refine VC.kill ?_ | refine VC.skip ?_ | refine VC.exit ?_ | refine VC.regA ?_ | refine VC.condT ?_ | refine VC.condF ?_))
      refine ⟨_, i + 1, ?_, ⟨rfl, by omega, ?_⟩, ?_⟩
      · omega
      · intro k hk hk' hlt
        rcases Nat.lt_or_ge k i with h3 | h3
        · exact hx k hk hk' h3
        · have : k = i := by omega
          subst this; exact h1
      · (apply G.weak; constructor <;> simp (config := {decide := true}) only [PT.Le, inV, mkB, PT.set, VSt.kill, VSt.adopt, VSt.alloc, PT.filt, PT.map, List.map_cons, List.map_nil, noref, norefB, deadB, deadV, nos, nm, nmL, nmB, nmE, Pa.eqb, cond_true, cond_false, Bool.not_true, Bool.not_false, Bool.and_true, Bool.true_and, nmL_vi, flV_len, flP_len, flV_nm, flV_ok, flV_pv, flP_map, drop_flP, drop_flV, putC_flV, eqV2, eqV3, bneT, bneF, decide_true, decide_false, frzL_vi, frzL_flV, eqV_slice, eqV_ptr, eqV_func, nilS, nilP, nilF, nmL_append, true_or, or_true, and_self, true_and, and_true, Option.some.injEq, reduceCtorEq, false_or, or_false, VV.p.injEq, PV.at.injEq, Value.int.injEq, sl1, vi, bl1, vb, nilV]); rfl
    · (repeat (first | refine VC.seq ?_ | refine VC.block ?_ | refine VC.kill ?_ | refine VC.skip ?_ | refine VC.exit ?_ | refine VC.regA ?_ | refine VC.condT ?_ | refine VC.condF ?_))
      obtain rfl : false = r := by rw [← hr, eq_comm, decide_eq_false_iff_not]; intro e; subst e; exact h1 rfl
      exact VC.ret (Fin.A rfl)
  · (repeat (first | refine VC.seq ?_ | refine VC.block ?_ | refine VC.kill ?_ | refine VC.skip ?_ | refine VC.exit ?_ | refine VC.regA ?_ | refine VC.condT ?_ | refine VC.condF ?_))
    obtain rfl : true = r := by rw [← hr, eq_comm, decide_eq_true_iff]; exact List.ext_getElem hab (fun k hk hk' => hx k hk hk' (by omega))
    exact VC.ret (Fin.A rfl)
end Go.Ab.Jug

namespace Go.Ab.Jug
open Go.Ab.V
set_option maxRecDepth 100000
theorem putC_map (l : List Int) (i : Nat) (v : Int) (h : i < l.length) : putC (l.map vi) i [vi v] = (l.set i v).map vi := by
  unfold putC
  rw [List.set_eq_take_append_cons_drop, if_pos h, List.map_append, List.map_cons, List.map_take, List.map_drop]
  rfl
/-- The reference's step. -/
def stepR (x f : List Int) (a b : Int) : List Int :=
  if a = -1 then f.set b.toNat (atQ x b) else if b = -1 then f.set a.toNat 0
  else (f.set a.toNat (atQ f a - min (atQ f a) (atQ x b - atQ f b))).set b.toNat (atQ f b + min (atQ f a) (atQ x b - atQ f b))
def isR (n : Nat) (a b : Int) : Bool := inR n a && inR n b && decide (a ≠ b)
set_option maxHeartbeats 4000000 in
theorem stepR_ok (x f : List Int) (a b : Int) (hx : x.length ≤ 4) (hf : f.length = x.length) (ha : -9223372036854775808 ≤ a ∧ a ≤ 9223372036854775807) (hb : -9223372036854775808 ≤ b ∧ b ≤ 9223372036854775807)
    (hq : ∀ i ∈ x, 1 ≤ i ∧ i ≤ 12) (hv : ∀ (k : Nat) (h : k < f.length) (h' : k < x.length), 0 ≤ f[k] ∧ f[k] ≤ x[k]) (h0 : 1 ≤ x.length) :
    VCall cfg 49 [sl1 x, sl1 f, ag2 a b] [] [] (.tup [sl1 (if isR x.length a b then stepR x f a b else f), vb (isR x.length a b)]) [] := by
  (refine VCall.mk (fn := a49) rfl rfl rfl ?_; simp only [a49, inV, mkB, nmsL, PT.set])
  simp only [ag2]
  cases hr : isR x.length a b with
  | false =>
    by_cases h1 : a < -1
    · (repeat (first | refine VC.seq ?_ | refine VC.block ?_ | refine VC.kill ?_ | refine VC.skip ?_ | refine VC.exit ?_ | refine VC.regA ?_ | refine VC.condT ?_ | refine VC.condF ?_))
      exact VC.ret (Fin.A rfl)
    by_cases h2 : (x.length : Int) ≤ a
    · (repeat (first | refine VC.seq ?_ | refine VC.block ?_ | refine VC.kill ?_ | refine VC.skip ?_ | refine VC.exit ?_ | refine VC.regA ?_ | refine VC.condT ?_ | refine VC.condF ?_))
      exact VC.ret (Fin.A rfl)
    by_cases h3 : b < -1
    · (repeat (first | refine VC.seq ?_ | refine VC.block ?_ | refine VC.kill ?_ | refine VC.skip ?_ | refine VC.exit ?_ | refine VC.regA ?_ | refine VC.condT ?_ | refine VC.condF ?_))
      exact VC.ret (Fin.A rfl)
    by_cases h4 : (x.length : Int) ≤ b
    · (repeat (first | refine VC.seq ?_ | refine VC.block ?_ | refine VC.kill ?_ | refine VC.skip ?_ | refine VC.exit ?_ | refine VC.regA ?_ | refine VC.condT ?_ | refine VC.condF ?_))
      exact VC.ret (Fin.A rfl)
    by_cases h5 : a = b
    · (repeat (first | refine VC.seq ?_ | refine VC.block ?_ | refine VC.kill ?_ | refine VC.skip ?_ | refine VC.exit ?_ | refine VC.regA ?_ | refine VC.condT ?_ | refine VC.condF ?_))
      exact VC.ret (Fin.A rfl)
    · exfalso
      have g1 : inR x.length a = true := by rw [inR, decide_eq_true_iff]; omega
      have g2 : inR x.length b = true := by rw [inR, decide_eq_true_iff]; omega
      simp [isR, g1, g2, h5] at hr
  | true =>
    have hA : -1 ≤ a ∧ a < x.length := by simp only [isR, inR, Bool.and_eq_true, decide_eq_true_eq] at hr; omega
    have hB : -1 ≤ b ∧ b < x.length := by simp only [isR, inR, Bool.and_eq_true, decide_eq_true_eq] at hr; omega
    have hab : a ≠ b := by simp only [isR, inR, Bool.and_eq_true, decide_eq_true_eq] at hr; exact hr.2
    have eq_at : ∀ (l : List Int) (i : Nat) (h : i < l.length), l.getD i 0 = l[i] := fun l i h => by rw [List.getD_eq_getElem?_getD, List.getElem?_eq_getElem h]; rfl
    by_cases h1 : a = -1
    · have hb' : b.toNat < x.length := by omega
      have hb'' : b.toNat < f.length := by omega
      have hp := putC_map f b.toNat x[b.toNat] hb''
      have hst : stepR x f a b = f.set b.toNat x[b.toNat] := by rw [stepR, if_pos h1, atQ, eq_at x _ hb']
      simp only [vi] at hp
      (repeat (first | refine VC.seq ?_ | refine VC.block ?_ | refine VC.kill ?_ | refine VC.skip ?_ | refine VC.exit ?_ | refine VC.regA ?_ | refine VC.condT ?_ | refine VC.condF ?_))
      rw [hp, hst]
      refine VC.ret (Fin.frzA p43 (hb := rfl) (hc := toPVs_map _) (Fin.A ?_))
      rw [if_pos rfl, sl1, List.length_set]; rfl
    by_cases h2 : b = -1
    · have ha'' : a.toNat < f.length := by omega
      have hp := putC_map f a.toNat 0 ha''
      have hst : stepR x f a b = f.set a.toNat 0 := by rw [stepR, if_neg h1, if_pos h2]
      simp only [vi] at hp
      (repeat (first | refine VC.seq ?_ | refine VC.block ?_ | refine VC.kill ?_ | refine VC.skip ?_ | refine VC.exit ?_ | refine VC.regA ?_ | refine VC.condT ?_ | refine VC.condF ?_))
      rw [hp, hst]
      refine VC.ret (Fin.frzA p43 (hb := rfl) (hc := toPVs_map _) (Fin.A ?_))
      rw [if_pos rfl, sl1, List.length_set]; rfl
    · have ha' : a.toNat < x.length := by omega
      have ha'' : a.toNat < f.length := by omega
      have hb' : b.toNat < x.length := by omega
      have hb'' : b.toNat < f.length := by omega
      have v1 := hv _ ha'' ha'
      have v2 := hv _ hb'' hb'
      have v3 := hq _ (List.getElem_mem ha')
      have v4 := hq _ (List.getElem_mem hb')
      have hst : stepR x f a b = (f.set a.toNat (f[a.toNat] - min f[a.toNat] (x[b.toNat] - f[b.toNat]))).set b.toNat (f[b.toNat] + min f[a.toNat] (x[b.toNat] - f[b.toNat])) := by
        rw [stepR, if_neg h1, if_neg h2]; simp only [atQ, eq_at x _ hb', eq_at f _ ha'', eq_at f _ hb'']
      have hp := putC_map f a.toNat (f[a.toNat] - min f[a.toNat] (x[b.toNat] - f[b.toNat])) ha''
      have hp2 := putC_map (f.set a.toNat (f[a.toNat] - min f[a.toNat] (x[b.toNat] - f[b.toNat]))) b.toNat (f[b.toNat] + min f[a.toNat] (x[b.toNat] - f[b.toNat])) (by rw [List.length_set]; exact hb'')
      simp only [vi] at hp hp2
      have hls : (f.set a.toNat (f[a.toNat] - min f[a.toNat] (x[b.toNat] - f[b.toNat]))).length = f.length := List.length_set
      (repeat (first | refine VC.seq ?_ | refine VC.block ?_ | refine VC.kill ?_ | refine VC.skip ?_ | refine VC.exit ?_ | refine VC.regA ?_ | refine VC.condT ?_ | refine VC.condF ?_))
      rw [hp]
      (repeat (first | refine VC.seq ?_ | refine VC.block ?_ | refine VC.kill ?_ | refine VC.skip ?_ | refine VC.exit ?_ | refine VC.regA ?_ | refine VC.condT ?_ | refine VC.condF ?_))
      rw [hp2, hst]
      refine VC.ret (Fin.frzA p43 (hb := rfl) (hc := toPVs_map _) (Fin.A ?_))
      rw [if_pos rfl, sl1, List.length_set, List.length_set]; rfl
end Go.Ab.Jug

namespace Go.Ab.Jug
open Go.Ab.V
set_option maxRecDepth 100000
def fillE (x l : List Int) (i : Nat) : Int := if i < l.length then l.getD i 0 % 18446744073709551616 % (x.getD i 0 + 1) else 0
def fillF (x l : List Int) : List Int := (List.range x.length).map (fillE x l)
theorem range_map_succ (f : Nat → Int) (i : Nat) : (List.range (i + 1)).map f = (List.range i).map f ++ [f i] := by rw [List.range_succ, List.map_append]; rfl
set_option maxHeartbeats 4000000 in
theorem filled_ok (x l : List Int) (hx : 1 ≤ x.length ∧ x.length ≤ 4) (hq : ∀ i ∈ x, 1 ≤ i ∧ i ≤ 12) (hl : l.length ≤ 9223372036854775807) : VCall cfg 17 [sl1 x, sl1 l] [] [] (sl1 (fillF x l)) [] := by
  (refine VCall.mk (fn := a17) rfl rfl rfl ?_; simp only [a17, inV, mkB, nmsL, PT.set])
  (repeat (first | refine VC.seq ?_ | refine VC.block ?_ | refine VC.kill ?_ | refine VC.skip ?_ | refine VC.exit ?_ | refine VC.regA ?_ | refine VC.condT ?_ | refine VC.condF ?_))
  refine VC.loopG (fun (i : Nat) => ⟨inV [p0, p1, p5, p6] [sl1 x, sl1 l, .os 1 p34 i, vi i] .lf, mkB [(p34, bl1 ((List.range i).map (fillE x l)))] .lf, [], none⟩) (fun n i => n = x.length - i ∧ i ≤ x.length) (x := 0) ?_ ⟨rfl, by omega⟩ ?_
  · refine G.adoptA (p := p5) 1 p34 ?_
    (apply G.weak; constructor <;> simp (config := {decide := true}) only [PT.Le, inV, mkB, PT.set, VSt.kill, VSt.adopt, VSt.alloc, PT.filt, PT.map, List.map_cons, List.map_nil, noref, norefB, deadB, deadV, nos, nm, nmL, nmB, nmE, Pa.eqb, cond_true, cond_false, Bool.not_true, Bool.not_false, Bool.and_true, Bool.true_and, nmL_vi, flV_len, flP_len, flV_nm, flV_ok, flV_pv, flP_map, drop_flP, drop_flV, putC_flV, eqV2, eqV3, bneT, bneF, decide_true, decide_false, frzL_vi, frzL_flV, eqV_slice, eqV_ptr, eqV_func, nilS, nilP, nilF, nmL_append, true_or, or_true, and_self, true_and, and_true, Option.some.injEq, reduceCtorEq, false_or, or_false, VV.p.injEq, PV.at.injEq, Value.int.injEq, sl1, vi, bl1, vb, nilV]); rfl
  rintro n i ⟨hn, hi⟩
  simp only [inV, PT.set, mkB]
  have hlen : ((List.range i).map (fillE x l)).length = i := by simp
  have hlen2 : (List.range i).length = i := by simp
  (repeat (first | refine VC.seq ?_ | refine VC.block ?_ | refine VC.kill ?_ | refine VC.skip ?_ | refine VC.exit ?_ | refine VC.regA ?_ | refine VC.condT ?_ | refine VC.condF ?_))
  refine VC.condA ?_ ?_ <;> intro h <;> (simp only [decide_eq_true_eq, decide_eq_false_iff_not, bne_iff_ne, ne_eq, bne_eq_false_iff_eq, beq_iff_eq, beq_eq_false_iff_ne, Bool.not_eq_true', Bool.not_eq_false', Bool.and_eq_true, Bool.or_eq_true, Int.natCast_inj] at h)
  · have h : i < x.length := by omega
    have hxi := hq _ (List.getElem_mem h)
    by_cases h1 : i < l.length
    · have hv : fillE x l i = l[i] % 18446744073709551616 % (x[i] + 1) := by
        rw [fillE, if_pos h1, List.getD_eq_getElem?_getD, List.getD_eq_getElem?_getD, List.getElem?_eq_getElem h1, List.getElem?_eq_getElem h]; rfl
      have hr0 := Int.emod_nonneg l[i] (b := 18446744073709551616) (by decide)
      have hr1 := Int.emod_lt_of_pos l[i] (b := 18446744073709551616) (by decide)
      have hr2 := Int.emod_nonneg (l[i] % 18446744073709551616) (b := x[i] + 1) (by omega)
      have hr3 := Int.emod_lt_of_pos (l[i] % 18446744073709551616) (b := x[i] + 1) (by omega)
      have hm : (x[i] + 1) % 18446744073709551616 = x[i] + 1 := Int.emod_eq_of_lt (by omega) (by omega)
      have hw : IntKind.i64.wrap (l[i] % 18446744073709551616 % (x[i] + 1)) = l[i] % 18446744073709551616 % (x[i] + 1) := by rw [Go.IntWalk.i64_in] <;> omega
      (repeat (first | refine VC.seq ?_ | refine VC.block ?_ | refine VC.kill ?_ | refine VC.skip ?_ | refine VC.exit ?_ | refine VC.regA ?_ | refine VC.condT ?_ | refine VC.condF ?_))
      refine ⟨_, i + 1, ?_, ⟨rfl, by omega⟩, ?_⟩
      · omega
      · (apply G.weak; constructor <;> simp (config := {decide := true}) only [PT.Le, inV, mkB, PT.set, VSt.kill, VSt.adopt, VSt.alloc, PT.filt, PT.map, List.map_cons, List.map_nil, noref, norefB, deadB, deadV, nos, nm, nmL, nmB, nmE, Pa.eqb, cond_true, cond_false, Bool.not_true, Bool.not_false, Bool.and_true, Bool.true_and, nmL_vi, flV_len, flP_len, flV_nm, flV_ok, flV_pv, flP_map, drop_flP, drop_flV, putC_flV, eqV2, eqV3, bneT, bneF, decide_true, decide_false, frzL_vi, frzL_flV, eqV_slice, eqV_ptr, eqV_func, nilS, nilP, nilF, nmL_append, true_or, or_true, and_self, true_and, and_true, Option.some.injEq, reduceCtorEq, false_or, or_false, VV.p.injEq, PV.at.injEq, Value.int.injEq, sl1, vi, bl1, vb, nilV, range_map_succ, hv, hm, hw, List.map_append, List.map_cons, List.map_nil]) <;> first | rfl | (trace_state; omega)
    · have hv : fillE x l i = 0 := by rw [fillE, if_neg h1]
      (repeat (first | refine VC.seq ?_ | refine VC.block ?_ | refine VC.kill ?_ | refine VC.skip ?_ | refine VC.exit ?_ | refine VC.regA ?_ | refine VC.condT ?_ | refine VC.condF ?_))
      refine ⟨_, i + 1, ?_, ⟨rfl, by omega⟩, ?_⟩
      · omega
      · (apply G.weak; constructor <;> simp (config := {decide := true}) only [PT.Le, inV, mkB, PT.set, VSt.kill, VSt.adopt, VSt.alloc, PT.filt, PT.map, List.map_cons, List.map_nil, noref, norefB, deadB, deadV, nos, nm, nmL, nmB, nmE, Pa.eqb, cond_true, cond_false, Bool.not_true, Bool.not_false, Bool.and_true, Bool.true_and, nmL_vi, flV_len, flP_len, flV_nm, flV_ok, flV_pv, flP_map, drop_flP, drop_flV, putC_flV, eqV2, eqV3, bneT, bneF, decide_true, decide_false, frzL_vi, frzL_flV, eqV_slice, eqV_ptr, eqV_func, nilS, nilP, nilF, nmL_append, true_or, or_true, and_self, true_and, and_true, Option.some.injEq, reduceCtorEq, false_or, or_false, VV.p.injEq, PV.at.injEq, Value.int.injEq, sl1, vi, bl1, vb, nilV, range_map_succ, hv, List.map_append, List.map_cons, List.map_nil]) <;> first | rfl | omega
  · have : i = x.length := by omega
    subst this
    (repeat (first | refine VC.seq ?_ | refine VC.block ?_ | refine VC.kill ?_ | refine VC.skip ?_ | refine VC.exit ?_ | refine VC.regA ?_ | refine VC.condT ?_ | refine VC.condF ?_))
    refine VC.ret (Fin.frzA p34 (Fin.A ?_))
    unfold fillF; rw [sl1, hlen]; rfl
end Go.Ab.Jug

namespace Go.Ab.Jug
end Go.Ab.Jug

/- An empty slice in a box is given a name. -/
namespace Go.Ab.V
section
variable {X : Ctx} {S S1 : VSt} {s : Slots} {h : AHeap} {ids : Pa → Option Nat} {F : Nat → Prop} {C : Cfg} {v v' : Value} {x y z : VV}
def _root_.Go.Ab.VSt.adoptB (S : VSt) (p : Pa) (i : Nat) (u : Nat) (d : Pa) (cs : List VV) : VSt := ⟨(S.alloc d (.cells [])).L, PT.set p (S.alloc d (.cells [])).B (some (.cells (cs.set i (.os u d 0)))), S.K, S.H⟩
theorem G.adoptB {p : Pa} {i : Nat} (u : Nat) (d : Pa) {cs : List VV} {x : VV} (hb : PT.get p (S.alloc d (.cells [])).B = some (.cells cs)) (hi : cs[i]? = some x) (hp : emptyV x = true) (hf : free S d = true) : G S (S.adoptB p i u d cs) := by
  intro X s h ids F t
  have t2 := t.newN (free_spec hf)
  have hB : ∀ {a b}, PT.get a (S.adoptB p i u d cs).B = some b → (a = p ∧ b = .cells (cs.set i (.os u d 0))) ∨ PT.get a (S.alloc d (.cells [])).B = some b := by
    intro a b hg
    have hg : PT.get a (PT.set p (S.alloc d (.cells [])).B (some (.cells (cs.set i (.os u d 0))))) = some b := hg
    rw [PT.get_set] at hg
    split at hg
    · rename_i e; cases hg; exact .inl ⟨e, rfl⟩
    · exact .inr hg
  refine ⟨_, F, ⟨t2.wf, t2.base, t2.next, t2.keep, t2.frz, t2.flt, fun a b hg => ?_, fun a b k hg hk => ?_, fun a1 a2 b1 b2 k g1 g2 e1 e2 => ?_, t2.slots, t2.stab, t2.hist⟩⟩
  · rcases hB hg with ⟨rfl, rfl⟩ | hg
    · have r := t2.blk a _ hb
      revert r
      cases hk : updI ids d none a with
      | none =>
        intro r
        have r : cs = [] := r
        subst r; simp at hi
      | some k =>
        rintro ⟨c, h1, h2⟩
        refine ⟨c, h1, by rw [List.length_set]; exact h2.1, fun j w y hw hy => ?_⟩
        rw [List.getElem?_set] at hy
        split at hy
        · rename_i e
          subst e
          split at hy
          · cases hy
            refine .osN (updI_same _ _ _) ?_
            have r := h2.2 i _ _ hw hi
            unfold emptyV at hp
            split at hp
            · exact .inl (at_inv r).1
            · cases r with
              | xs e => exact e
            · cases hp
          · cases hy
        · exact h2.2 j _ _ hw hy
    · exact t2.blk a b hg
  · rcases hB hg with ⟨rfl, rfl⟩ | hg
    · exact t2.own a _ k hb hk
    · exact t2.own a b k hg hk
  · have g1' : ∃ c, PT.get a1 (S.alloc d (.cells [])).B = some c := by
      rcases hB g1 with ⟨rfl, _⟩ | g
      · exact ⟨_, hb⟩
      · exact ⟨_, g⟩
    have g2' : ∃ c, PT.get a2 (S.alloc d (.cells [])).B = some c := by
      rcases hB g2 with ⟨rfl, _⟩ | g
      · exact ⟨_, hb⟩
      · exact ⟨_, g⟩
    obtain ⟨c1, g1'⟩ := g1'
    obtain ⟨c2, g2'⟩ := g2'
    exact t2.inj a1 a2 c1 c2 k g1' g2' e1 e2
theorem G.adoptBA {p : Pa} (i : Nat) (u : Nat) (d : Pa) {cs : List VV} {x : VV} {S2 : VSt} (hq : G (S.adoptB p i u d cs) S2) (hb : PT.get p (S.alloc d (.cells [])).B = some (.cells cs) := by rfl) (hi : cs[i]? = some x := by rfl) (hp : emptyV x = true := by rfl) (hf : free S d = true := by rfl) : G S S2 := (G.adoptB u d hb hi hp hf).trans hq
/-- A slice in a box, seen as a part of its block. -/
def _root_.Go.Ab.VSt.osob (S : VSt) (p : Pa) (i : Nat) (u : Nat) (a : Pa) (n : Nat) (cs : List VV) : VSt := ⟨S.L, PT.set p S.B (some (.cells (cs.set i (.ob u a 0 n n)))), S.K, S.H⟩
theorem G.osob {p : Pa} {i : Nat} {u : Nat} {a : Pa} {n : Nat} {cs : List VV} (hb : PT.get p S.B = some (.cells cs)) (hi : cs[i]? = some (.os u a n)) (hn : n ≠ 0) : G S (S.osob p i u a n cs) := by
  intro X s h ids F t
  have hB : ∀ {a' b}, PT.get a' (S.osob p i u a n cs).B = some b → (a' = p ∧ b = .cells (cs.set i (.ob u a 0 n n))) ∨ PT.get a' S.B = some b := by
    intro a' b hg
    have hg : PT.get a' (PT.set p S.B (some (.cells (cs.set i (.ob u a 0 n n))))) = some b := hg
    rw [PT.get_set] at hg
    split at hg
    · rename_i e; cases hg; exact .inl ⟨e, rfl⟩
    · exact .inr hg
  have hB' : ∀ {a' b}, PT.get a' (S.osob p i u a n cs).B = some b → ∃ c, PT.get a' S.B = some c := fun hg => by
    rcases hB hg with ⟨rfl, _⟩ | g
    · exact ⟨_, hb⟩
    · exact ⟨_, g⟩
  refine ⟨ids, F, ⟨t.wf, t.base, t.next, t.keep, t.frz, t.flt, fun a' b hg => ?_, fun a' b k hg hk => ?_, fun a1 a2 b1 b2 k g1 g2 e1 e2 => ?_, t.slots, t.stab, t.hist⟩⟩
  · rcases hB hg with ⟨rfl, rfl⟩ | hg
    · have r := t.blk a' _ hb
      revert r
      cases hk : ids a' with
      | none =>
        intro r
        have r : cs = [] := r
        subst r; simp at hi
      | some k =>
        rintro ⟨c, h1, h2⟩
        refine ⟨c, h1, by rw [List.length_set]; exact h2.1, fun j w y hw hy => ?_⟩
        rw [List.getElem?_set] at hy
        split at hy
        · rename_i e
          subst e
          split at hy
          · cases hy
            have r := h2.2 i _ _ hw hi
            rcases os_inv r with ⟨_, rfl, _⟩ | ⟨k', tg, hk', ht, rfl⟩
            · exact absurd rfl hn
            · exact .ob 0 hk' ht (Nat.le_refl _)
          · cases hy
        · exact h2.2 j _ _ hw hy
    · exact t.blk a' b hg
  · obtain ⟨c, hg⟩ := hB' hg
    exact t.own a' c k hg hk
  · obtain ⟨c1, g1⟩ := hB' g1
    obtain ⟨c2, g2⟩ := hB' g2
    exact t.inj a1 a2 c1 c2 k g1 g2 e1 e2
theorem G.osobA {p : Pa} (i : Nat) {u : Nat} {a : Pa} {n : Nat} {cs : List VV} {S2 : VSt} (hq : G (S.osob p i u a n cs) S2) (hn : n ≠ 0) (hb : PT.get p S.B = some (.cells cs) := by rfl) (hi : cs[i]? = some (.os u a n) := by rfl) : G S S2 := (G.osob hb hi hn).trans hq
theorem get_flV0 : ∀ {l : List (Int × Int)} {i : Nat} (h : i < l.length), (flV l)[i * 2]? = some (vi l[i].1)
  | [], i, h => absurd h (Nat.not_lt_zero i)
  | a :: l, 0, _ => rfl
  | a :: l, i + 1, h => by
    have h' : i < l.length := by simpa using h
    rw [show (i + 1) * 2 = i * 2 + 1 + 1 from by omega, flV_cons, List.getElem?_cons_succ, List.getElem?_cons_succ, get_flV0 h']; rfl
theorem get_flV1 : ∀ {l : List (Int × Int)} {i : Nat} (h : i < l.length), (flV l)[i * 2 + 1]? = some (vi l[i].2)
  | [], i, h => absurd h (Nat.not_lt_zero i)
  | a :: l, 0, _ => rfl
  | a :: l, i + 1, h => by
    have h' : i < l.length := by simpa using h
    rw [show (i + 1) * 2 + 1 = i * 2 + 1 + 1 + 1 from by omega, flV_cons, List.getElem?_cons_succ, List.getElem?_cons_succ, get_flV1 h']; rfl
end
end Go.Ab.V

namespace Go.Ab.Jug
open Go.Ab.V
set_option maxRecDepth 100000
end Go.Ab.Jug

namespace Go.Ab.Jug
open Go.Ab.V
set_option maxRecDepth 100000
def okR (x f : List Int) (c : Bool) (a b : Int) : Bool := !(c && (decide (a = -1) || decide (b = -1))) && isR x.length a b && !decide (f = stepR x f a b)
def itR (x f : List Int) (c : Bool) (a b : Int) : List (Int × Int) := if okR x f c a b = true then [(a, b)] else []
def rowR (x f : List Int) (c : Bool) (a : Int) : Nat → List (Int × Int)
  | 0 => []
  | m + 1 => itR x f c a ((x.length : Int) - ((m + 1 : Nat) : Int)) ++ rowR x f c a m
def allR (x f : List Int) (c : Bool) : Nat → List (Int × Int)
  | 0 => []
  | k + 1 => rowR x f c ((x.length : Int) - ((k + 1 : Nat) : Int)) (x.length + 1) ++ allR x f c k
theorem stepR_len (x f : List Int) (a b : Int) : (stepR x f a b).length = f.length := by
  unfold stepR; split
  · simp
  · split <;> simp
theorem rowR_len (x f : List Int) (c : Bool) (a : Int) : ∀ m, (rowR x f c a m).length ≤ m
  | 0 => Nat.le_refl _
  | m + 1 => by
    have := rowR_len x f c a m
    have h2 : ∀ b, (itR x f c a b).length ≤ 1 := fun b => by unfold itR; split <;> simp
    have h3 := h2 ((x.length : Int) - ((m + 1 : Nat) : Int))
    simp only [rowR, List.length_append]; omega
theorem allR_len (x f : List Int) (c : Bool) : ∀ k, (allR x f c k).length ≤ k * (x.length + 1)
  | 0 => by simp [allR]
  | k + 1 => by
    have := allR_len x f c k
    have h2 := rowR_len x f c ((x.length : Int) - ((k + 1 : Nat) : Int)) (x.length + 1)
    simp only [allR, List.length_append]; rw [Nat.succ_mul]; omega
theorem allR_len25 (x f : List Int) (c : Bool) (hx : x.length ≤ 4) : (allR x f c (x.length + 1)).length ≤ 25 := by
  have := allR_len x f c (x.length + 1)
  have h2 : (x.length + 1) * (x.length + 1) ≤ 5 * 5 := Nat.mul_le_mul (by omega) (by omega)
  omega
set_option maxHeartbeats 4000000 in
theorem StepsR_ok (x f : List Int) (c : Bool) (hx : 1 ≤ x.length ∧ x.length ≤ 4) (hf : f.length = x.length) (hq : ∀ i ∈ x, 1 ≤ i ∧ i ≤ 12) (hv : ∀ (k : Nat) (h : k < f.length) (h' : k < x.length), 0 ≤ f[k] ∧ f[k] ≤ x[k]) :
    VCall cfg 19 [sl1 x, sl1 f, vb c] [] [] (slP (allR x f c (x.length + 1))) [] := by
  (refine VCall.mk (fn := a19) rfl rfl rfl ?_; simp only [a19, inV, mkB, nmsL, PT.set])
  (repeat (first | refine VC.seq ?_ | refine VC.block ?_ | refine VC.kill ?_ | refine VC.skip ?_ | refine VC.exit ?_ | refine VC.regA ?_ | refine VC.condT ?_ | refine VC.condF ?_))
  refine VC.loopG (fun (q : List (Int × Int) × Nat) => ⟨inV [p0, p1, p2, p7, p8] [sl1 x, sl1 f, vb c, .os 2 p54 q.1.length, vi ((x.length : Int) - (q.2 : Int))] .lf, mkB [(p54, .cells (flV q.1))] .lf, [], none⟩) (fun n q => n = q.2 ∧ q.2 ≤ x.length + 1 ∧ q.1 ++ allR x f c q.2 = allR x f c (x.length + 1)) (x := ([], x.length + 1)) ?_ ⟨rfl, Nat.le_refl _, rfl⟩ ?_
  · refine G.adoptA (p := p7) 2 p54 ?_
    (apply G.weak; constructor <;> simp (config := {decide := true}) only [PT.Le, inV, mkB, PT.set, VSt.kill, VSt.adopt, VSt.alloc, PT.filt, PT.map, List.map_cons, List.map_nil, noref, norefB, deadB, deadV, nos, nm, nmL, nmB, nmE, Pa.eqb, cond_true, cond_false, Bool.not_true, Bool.not_false, Bool.and_true, Bool.true_and, nmL_vi, flV_len, flP_len, flV_nm, flV_ok, flV_pv, flP_map, drop_flP, drop_flV, putC_flV, eqV2, eqV3, bneT, bneF, decide_true, decide_false, frzL_vi, frzL_flV, eqV_slice, eqV_ptr, eqV_func, nilS, nilP, nilF, nmL_append, true_or, or_true, and_self, true_and, and_true, Option.some.injEq, reduceCtorEq, false_or, or_false, VV.p.injEq, PV.at.injEq, Value.int.injEq, sl1, vi, bl1, vb, nilV, pi])
    all_goals first | rfl | omega | exact ⟨rfl, by omega⟩
  rintro n ⟨L, k⟩ ⟨hn, hk, hL⟩
  simp only [inV, PT.set, mkB] at *
  (repeat (first | refine VC.seq ?_ | refine VC.block ?_ | refine VC.kill ?_ | refine VC.skip ?_ | refine VC.exit ?_ | refine VC.regA ?_ | refine VC.condT ?_ | refine VC.condF ?_))
  refine VC.condA ?_ ?_ <;> intro h <;> (simp only [decide_eq_true_eq, decide_eq_false_iff_not, bne_iff_ne, ne_eq, bne_eq_false_iff_eq, beq_iff_eq, beq_eq_false_iff_ne, Bool.not_eq_true', Bool.not_eq_false', Bool.and_eq_true, Bool.or_eq_true, Int.natCast_inj] at h)
  · obtain ⟨k, rfl⟩ : ∃ j, k = j + 1 := ⟨k - 1, by omega⟩
    have hA : -1 ≤ (x.length : Int) - ((k + 1 : Nat) : Int) ∧ (x.length : Int) - ((k + 1 : Nat) : Int) < x.length := by omega
    have hall : allR x f c (k + 1) = rowR x f c ((x.length : Int) - ((k + 1 : Nat) : Int)) (x.length + 1) ++ allR x f c k := rfl
    rw [hall] at hL
    generalize hAa : (x.length : Int) - ((k + 1 : Nat) : Int) = A at *
    (repeat (first | refine VC.seq ?_ | refine VC.block ?_ | refine VC.kill ?_ | refine VC.skip ?_ | refine VC.exit ?_ | refine VC.regA ?_ | refine VC.condT ?_ | refine VC.condF ?_))
    refine VC.loopG (fun (q : List (Int × Int) × Nat) => ⟨inV [p0, p1, p2, p7, p8, p9] [sl1 x, sl1 f, vb c, .os 2 p54 q.1.length, vi A, vi ((x.length : Int) - (q.2 : Int))] .lf, mkB [(p54, .cells (flV q.1))] .lf, [], none⟩) (fun n q => n = q.2 ∧ q.2 ≤ x.length + 1 ∧ q.1 ++ (rowR x f c A q.2 ++ allR x f c k) = allR x f c (x.length + 1)) (x := (L, x.length + 1)) ?_ ⟨rfl, Nat.le_refl _, hL⟩ ?_
    · (apply G.weak; constructor <;> simp (config := {decide := true}) only [PT.Le, inV, mkB, PT.set, VSt.kill, VSt.adopt, VSt.alloc, PT.filt, PT.map, List.map_cons, List.map_nil, noref, norefB, deadB, deadV, nos, nm, nmL, nmB, nmE, Pa.eqb, cond_true, cond_false, Bool.not_true, Bool.not_false, Bool.and_true, Bool.true_and, nmL_vi, flV_len, flP_len, flV_nm, flV_ok, flV_pv, flP_map, drop_flP, drop_flV, putC_flV, eqV2, eqV3, bneT, bneF, decide_true, decide_false, frzL_vi, frzL_flV, eqV_slice, eqV_ptr, eqV_func, nilS, nilP, nilF, nmL_append, true_or, or_true, and_self, true_and, and_true, Option.some.injEq, reduceCtorEq, false_or, or_false, VV.p.injEq, PV.at.injEq, Value.int.injEq, sl1, vi, bl1, vb, nilV, pi])
      all_goals first | rfl | omega | exact ⟨rfl, by omega⟩
    rintro n' ⟨M, m⟩ ⟨hn', hm, hM⟩
    simp only [inV, PT.set, mkB] at *
    (repeat (first | refine VC.seq ?_ | refine VC.block ?_ | refine VC.kill ?_ | refine VC.skip ?_ | refine VC.exit ?_ | refine VC.regA ?_ | refine VC.condT ?_ | refine VC.condF ?_))
    refine VC.condA ?_ ?_ <;> intro h' <;> (simp only [decide_eq_true_eq, decide_eq_false_iff_not, bne_iff_ne, ne_eq, bne_eq_false_iff_eq, beq_iff_eq, beq_eq_false_iff_ne, Bool.not_eq_true', Bool.not_eq_false', Bool.and_eq_true, Bool.or_eq_true, Int.natCast_inj] at h')
    · obtain ⟨m, rfl⟩ : ∃ j, m = j + 1 := ⟨m - 1, by omega⟩
      have hB : -1 ≤ (x.length : Int) - ((m + 1 : Nat) : Int) ∧ (x.length : Int) - ((m + 1 : Nat) : Int) < x.length := by omega
      have hrow : rowR x f c A (m + 1) = itR x f c A ((x.length : Int) - ((m + 1 : Nat) : Int)) ++ rowR x f c A m := rfl
      rw [hrow, List.append_assoc] at hM
      generalize hBb : (x.length : Int) - ((m + 1 : Nat) : Int) = B at *
      have k1 := stepR_ok x f A B hx.2 hf (by omega) (by omega) hq hv hx.1
      simp only [ag2] at k1
      have fin0 : okR x f c A B = false → M ++ (rowR x f c A m ++ allR x f c k) = allR x f c (x.length + 1) := fun h => by
        have : itR x f c A B = [] := by simp [itR, h]
        rw [this, List.nil_append] at hM; exact hM
      by_cases hc1 : c = true ∧ A = -1
      · obtain ⟨rfl, e⟩ := hc1
        (repeat (first | refine VC.seq ?_ | refine VC.block ?_ | refine VC.kill ?_ | refine VC.skip ?_ | refine VC.exit ?_ | refine VC.regA ?_ | refine VC.condT ?_ | refine VC.condF ?_))
        refine ⟨_, (M, m), ?_, ⟨rfl, by omega, fin0 (by simp [okR, e])⟩, ?_⟩
        · simp; omega
        · (apply G.weak; constructor <;> simp (config := {decide := true}) only [PT.Le, inV, mkB, PT.set, VSt.kill, VSt.adopt, VSt.alloc, PT.filt, PT.map, List.map_cons, List.map_nil, noref, norefB, deadB, deadV, nos, nm, nmL, nmB, nmE, Pa.eqb, cond_true, cond_false, Bool.not_true, Bool.not_false, Bool.and_true, Bool.true_and, nmL_vi, flV_len, flP_len, flV_nm, flV_ok, flV_pv, flP_map, drop_flP, drop_flV, putC_flV, eqV2, eqV3, bneT, bneF, decide_true, decide_false, frzL_vi, frzL_flV, eqV_slice, eqV_ptr, eqV_func, nilS, nilP, nilF, nmL_append, true_or, or_true, and_self, true_and, and_true, Option.some.injEq, reduceCtorEq, false_or, or_false, VV.p.injEq, PV.at.injEq, Value.int.injEq, sl1, vi, bl1, vb, nilV, pi])
          all_goals first | rfl | omega | exact ⟨rfl, by omega⟩
      by_cases hc2 : c = true ∧ B = -1
      · obtain ⟨rfl, e⟩ := hc2
        have hne : A ≠ -1 := fun e => hc1 ⟨rfl, e⟩
        (repeat (first | refine VC.seq ?_ | refine VC.block ?_ | refine VC.kill ?_ | refine VC.skip ?_ | refine VC.exit ?_ | refine VC.regA ?_ | refine VC.condT ?_ | refine VC.condF ?_))
        refine ⟨_, (M, m), ?_, ⟨rfl, by omega, fin0 (by simp [okR, e])⟩, ?_⟩
        · simp; omega
        · (apply G.weak; constructor <;> simp (config := {decide := true}) only [PT.Le, inV, mkB, PT.set, VSt.kill, VSt.adopt, VSt.alloc, PT.filt, PT.map, List.map_cons, List.map_nil, noref, norefB, deadB, deadV, nos, nm, nmL, nmB, nmE, Pa.eqb, cond_true, cond_false, Bool.not_true, Bool.not_false, Bool.and_true, Bool.true_and, nmL_vi, flV_len, flP_len, flV_nm, flV_ok, flV_pv, flP_map, drop_flP, drop_flV, putC_flV, eqV2, eqV3, bneT, bneF, decide_true, decide_false, frzL_vi, frzL_flV, eqV_slice, eqV_ptr, eqV_func, nilS, nilP, nilF, nmL_append, true_or, or_true, and_self, true_and, and_true, Option.some.injEq, reduceCtorEq, false_or, or_false, VV.p.injEq, PV.at.injEq, Value.int.injEq, sl1, vi, bl1, vb, nilV, pi])
          all_goals first | rfl | omega | exact ⟨rfl, by omega⟩
      have hcc : (c && (decide (A = -1) || decide (B = -1))) = false := by
        cases c with
        | false => rfl
        | true => simp; exact ⟨fun e => hc1 ⟨rfl, e⟩, fun e => hc2 ⟨rfl, e⟩⟩
      have hne : c = true → A ≠ -1 ∧ B ≠ -1 := fun e => by
        subst e; exact ⟨fun e => hc1 ⟨rfl, e⟩, fun e => hc2 ⟨rfl, e⟩⟩
      cases hR : isR x.length A B with
      | false =>
        rw [hR] at k1
        have hok : okR x f c A B = false := by simp [okR, hR]
        cases c
        all_goals
          try have hne := hne rfl
          (repeat (first | refine VC.seq ?_ | refine VC.block ?_ | refine VC.kill ?_ | refine VC.skip ?_ | refine VC.exit ?_ | refine VC.regA ?_ | refine VC.condT ?_ | refine VC.condF ?_))
          (refine VC.regCA ?_; refine VO.moreA ?_; refine VO.call0A (no_orc _ (by decide)) k1 ?_; refine VO.endA ?_; (repeat (first | refine VC.seq ?_ | refine VC.block ?_ | refine VC.kill ?_ | refine VC.skip ?_ | refine VC.exit ?_ | refine VC.regA ?_ | refine VC.condT ?_ | refine VC.condF ?_)))
          refine ⟨_, (M, m), ?_, ⟨rfl, by omega, fin0 hok⟩, ?_⟩
          · simp; omega
          · (apply G.weak; constructor <;> simp (config := {decide := true}) only [PT.Le, inV, mkB, PT.set, VSt.kill, VSt.adopt, VSt.alloc, PT.filt, PT.map, List.map_cons, List.map_nil, noref, norefB, deadB, deadV, nos, nm, nmL, nmB, nmE, Pa.eqb, cond_true, cond_false, Bool.not_true, Bool.not_false, Bool.and_true, Bool.true_and, nmL_vi, flV_len, flP_len, flV_nm, flV_ok, flV_pv, flP_map, drop_flP, drop_flV, putC_flV, eqV2, eqV3, bneT, bneF, decide_true, decide_false, frzL_vi, frzL_flV, eqV_slice, eqV_ptr, eqV_func, nilS, nilP, nilF, nmL_append, true_or, or_true, and_self, true_and, and_true, Option.some.injEq, reduceCtorEq, false_or, or_false, VV.p.injEq, PV.at.injEq, Value.int.injEq, sl1, vi, bl1, vb, nilV, pi])
            (all_goals first | rfl | omega | exact ⟨rfl, by omega⟩)
      | true =>
        rw [hR] at k1
        simp only [if_true] at k1
        have k2 := equal_ok f (stepR x f A B) (stepR_len ..).symm (by omega)
        by_cases hd : f = stepR x f A B
        · have hok : okR x f c A B = false := by simp [okR, ← hd]
          rw [decide_eq_true hd] at k2
          cases c
          all_goals
            try have hne := hne rfl
            (repeat (first | refine VC.seq ?_ | refine VC.block ?_ | refine VC.kill ?_ | refine VC.skip ?_ | refine VC.exit ?_ | refine VC.regA ?_ | refine VC.condT ?_ | refine VC.condF ?_))
            (refine VC.regCA ?_; refine VO.moreA ?_; refine VO.call0A (no_orc _ (by decide)) k1 ?_; refine VO.endA ?_; (repeat (first | refine VC.seq ?_ | refine VC.block ?_ | refine VC.kill ?_ | refine VC.skip ?_ | refine VC.exit ?_ | refine VC.regA ?_ | refine VC.condT ?_ | refine VC.condF ?_)))
            (refine VC.regCA ?_; refine VO.moreA ?_; refine VO.call0A (no_orc _ (by decide)) k2 ?_; refine VO.endA ?_; (repeat (first | refine VC.seq ?_ | refine VC.block ?_ | refine VC.kill ?_ | refine VC.skip ?_ | refine VC.exit ?_ | refine VC.regA ?_ | refine VC.condT ?_ | refine VC.condF ?_)))
            refine ⟨_, (M, m), ?_, ⟨rfl, by omega, fin0 hok⟩, ?_⟩
            · simp; omega
            · (apply G.weak; constructor <;> simp (config := {decide := true}) only [PT.Le, inV, mkB, PT.set, VSt.kill, VSt.adopt, VSt.alloc, PT.filt, PT.map, List.map_cons, List.map_nil, noref, norefB, deadB, deadV, nos, nm, nmL, nmB, nmE, Pa.eqb, cond_true, cond_false, Bool.not_true, Bool.not_false, Bool.and_true, Bool.true_and, nmL_vi, flV_len, flP_len, flV_nm, flV_ok, flV_pv, flP_map, drop_flP, drop_flV, putC_flV, eqV2, eqV3, bneT, bneF, decide_true, decide_false, frzL_vi, frzL_flV, eqV_slice, eqV_ptr, eqV_func, nilS, nilP, nilF, nmL_append, true_or, or_true, and_self, true_and, and_true, Option.some.injEq, reduceCtorEq, false_or, or_false, VV.p.injEq, PV.at.injEq, Value.int.injEq, sl1, vi, bl1, vb, nilV, pi])
              (all_goals first | rfl | omega | exact ⟨rfl, by omega⟩)
        · have hit : itR x f c A B = [(A, B)] := by simp [itR, okR, hcc, hR, hd]
          rw [hit] at hM
          have hM' : M ++ [(A, B)] ++ (rowR x f c A m ++ allR x f c k) = allR x f c (x.length + 1) := by rw [← hM]; simp
          have hlen : (M ++ [(A, B)]).length = M.length + 1 := by simp
          have hfl := flV_snoc M A B
          have hl2 := flV_len M
          have hnm := flV_nm M
          have hML : M.length ≤ 24 := by
            have := allR_len25 x f c hx.2
            rw [← hM'] at this; simp at this; omega
          rw [decide_eq_false hd] at k2
          cases c
          all_goals
            try have hne := hne rfl
            (repeat (first | refine VC.seq ?_ | refine VC.block ?_ | refine VC.kill ?_ | refine VC.skip ?_ | refine VC.exit ?_ | refine VC.regA ?_ | refine VC.condT ?_ | refine VC.condF ?_))
            (refine VC.regCA ?_; refine VO.moreA ?_; refine VO.call0A (no_orc _ (by decide)) k1 ?_; refine VO.endA ?_; (repeat (first | refine VC.seq ?_ | refine VC.block ?_ | refine VC.kill ?_ | refine VC.skip ?_ | refine VC.exit ?_ | refine VC.regA ?_ | refine VC.condT ?_ | refine VC.condF ?_)))
            (refine VC.regCA ?_; refine VO.moreA ?_; refine VO.call0A (no_orc _ (by decide)) k2 ?_; refine VO.endA ?_; (repeat (first | refine VC.seq ?_ | refine VC.block ?_ | refine VC.kill ?_ | refine VC.skip ?_ | refine VC.exit ?_ | refine VC.regA ?_ | refine VC.condT ?_ | refine VC.condF ?_)))
            refine ⟨_, (M ++ [(A, B)], m), ?_, ⟨rfl, by omega, hM'⟩, ?_⟩
            · simp; omega
            · (apply G.weak; constructor <;> simp (config := {decide := true}) only [PT.Le, inV, mkB, PT.set, VSt.kill, VSt.adopt, VSt.alloc, PT.filt, PT.map, List.map_cons, List.map_nil, noref, norefB, deadB, deadV, nos, nm, nmL, nmB, nmE, Pa.eqb, cond_true, cond_false, Bool.not_true, Bool.not_false, Bool.and_true, Bool.true_and, nmL_vi, flV_len, flP_len, flV_nm, flV_ok, flV_pv, flP_map, drop_flP, drop_flV, putC_flV, eqV2, eqV3, bneT, bneF, decide_true, decide_false, frzL_vi, frzL_flV, eqV_slice, eqV_ptr, eqV_func, nilS, nilP, nilF, nmL_append, true_or, or_true, and_self, true_and, and_true, Option.some.injEq, reduceCtorEq, false_or, or_false, VV.p.injEq, PV.at.injEq, Value.int.injEq, sl1, vi, bl1, vb, nilV, pi, hfl, hlen])
              (all_goals first | rfl | omega | exact ⟨rfl, by omega⟩)
    · have : m = 0 := by omega
      subst this
      (repeat (first | refine VC.seq ?_ | refine VC.block ?_ | refine VC.kill ?_ | refine VC.skip ?_ | refine VC.exit ?_ | refine VC.regA ?_ | refine VC.condT ?_ | refine VC.condF ?_))
      refine ⟨_, (M, k), ?_, ⟨rfl, by omega, ?_⟩, ?_⟩
      · simp; omega
      · simpa [rowR] using hM
      · (apply G.weak; constructor <;> simp (config := {decide := true}) only [PT.Le, inV, mkB, PT.set, VSt.kill, VSt.adopt, VSt.alloc, PT.filt, PT.map, List.map_cons, List.map_nil, noref, norefB, deadB, deadV, nos, nm, nmL, nmB, nmE, Pa.eqb, cond_true, cond_false, Bool.not_true, Bool.not_false, Bool.and_true, Bool.true_and, nmL_vi, flV_len, flP_len, flV_nm, flV_ok, flV_pv, flP_map, drop_flP, drop_flV, putC_flV, eqV2, eqV3, bneT, bneF, decide_true, decide_false, frzL_vi, frzL_flV, eqV_slice, eqV_ptr, eqV_func, nilS, nilP, nilF, nmL_append, true_or, or_true, and_self, true_and, and_true, Option.some.injEq, reduceCtorEq, false_or, or_false, VV.p.injEq, PV.at.injEq, Value.int.injEq, sl1, vi, bl1, vb, nilV, pi])
        all_goals first | rfl | omega | exact ⟨rfl, by omega⟩
  · have : k = 0 := by omega
    subst this
    (repeat (first | refine VC.seq ?_ | refine VC.block ?_ | refine VC.kill ?_ | refine VC.skip ?_ | refine VC.exit ?_ | refine VC.regA ?_ | refine VC.condT ?_ | refine VC.condF ?_))
    have hL : L = allR x f c (x.length + 1) := by simpa [allR] using hL
    rw [← hL]
    exact VC.ret (Fin.frzA p54 (hb := rfl) (hc := flV_pv L) (Fin.A rfl))
end Go.Ab.Jug

namespace Go.Ab.Jug
open Go.Ab.V
set_option maxRecDepth 100000
/-- The steps from a filling, with the fillings afterwards. -/
def itP (n : Nat) (q f : List Int) (c : Bool) (a b : Int) : List ((Int × Int) × List Int) := if isS n c a b = true ∧ doS q f a b ≠ f then [((a, b), doS q f a b)] else []
def rowP (n : Nat) (q f : List Int) (c : Bool) (a : Int) : Nat → List ((Int × Int) × List Int)
  | 0 => []
  | m + 1 => itP n q f c a ((n : Int) - ((m + 1 : Nat) : Int)) ++ rowP n q f c a m
def allP (n : Nat) (q f : List Int) (c : Bool) : Nat → List ((Int × Int) × List Int)
  | 0 => []
  | k + 1 => rowP n q f c ((n : Int) - ((k + 1 : Nat) : Int)) (n + 1) ++ allP n q f c k
def encI (p : (Int × Int) × List Int) : List VV := [ag2 p.1.1 p.1.2, .agg (p.2.map vi)]
theorem itS_eq (n : Nat) (q f : List Int) (c : Bool) (a b : Int) : itemS n q f c a b = (itP n q f c a b).map encI := by
  unfold itemS itP; split <;> rfl
theorem rowS_eq (n : Nat) (q f : List Int) (c : Bool) (a : Int) : ∀ m, rowS n q f c a m = (rowP n q f c a m).map encI
  | 0 => rfl
  | m + 1 => by rw [rowS, rowP, List.map_append, itS_eq, rowS_eq n q f c a m]
theorem allS_eq (n : Nat) (q f : List Int) (c : Bool) : ∀ k, allS n q f c k = (allP n q f c k).map encI
  | 0 => rfl
  | k + 1 => by rw [allS, allP, List.map_append, rowS_eq, allS_eq n q f c k]
theorem pad4_len (x : List Int) (h : x.length ≤ 4) : (pad4 x).length = 4 := by simp [pad4]; omega
theorem pad4_getD (x : List Int) (i : Nat) (h : i < x.length) : (pad4 x).getD i 0 = x.getD i 0 := by
  rw [List.getD_eq_getElem?_getD, List.getD_eq_getElem?_getD, pad4, List.getElem?_append_left h]
theorem pad4_set (x : List Int) (i : Nat) (v : Int) (h : i < x.length) : (pad4 x).set i v = pad4 (x.set i v) := by
  unfold pad4; rw [List.set_append_left _ _ h, List.length_set]
theorem pad4_inj {x y : List Int} (h : x.length = y.length) (e : pad4 x = pad4 y) : x = y := (List.append_inj e h).1
theorem doS_pad (x f : List Int) (a b : Int) (hf : f.length = x.length) (ha : -1 ≤ a ∧ a < x.length) (hb : -1 ≤ b ∧ b < x.length) (hab : a ≠ b) : doS (pad4 x) (pad4 f) a b = pad4 (stepR x f a b) := by
  unfold doS stepR atQ
  by_cases h1 : a = -1
  · rw [if_pos h1, if_pos h1, pad4_getD _ _ (by omega), pad4_set _ _ _ (by omega)]
  rw [if_neg h1, if_neg h1]
  by_cases h2 : b = -1
  · rw [if_pos h2, if_pos h2, pad4_set _ _ _ (by omega)]
  rw [if_neg h2, if_neg h2, pad4_getD _ _ (by omega), pad4_getD _ _ (by omega), pad4_getD _ _ (by omega), pad4_set _ _ _ (by omega), pad4_set _ _ _ (by rw [List.length_set]; omega)]
theorem isS_eq (n : Nat) (c : Bool) (a b : Int) : isS n c a b = (!(c && (decide (a = -1) || decide (b = -1))) && isR n a b) := by
  unfold isS isR
  cases c <;> simp [Bool.and_comm, Bool.and_assoc]
def encR (x f : List Int) (p : Int × Int) : (Int × Int) × List Int := (p, pad4 (stepR x f p.1 p.2))
theorem itP_eq (x f : List Int) (c : Bool) (a b : Int) (hf : f.length = x.length) (ha : -1 ≤ a ∧ a < x.length) (hb : -1 ≤ b ∧ b < x.length) : itP x.length (pad4 x) (pad4 f) c a b = (itR x f c a b).map (encR x f) := by
  unfold itP itR okR
  rw [isS_eq]
  cases h : (!(c && (decide (a = -1) || decide (b = -1))) && isR x.length a b) with
  | false => simp
  | true =>
    have hab : a ≠ b := by
      intro e; subst e; simp [isR] at h
    rw [doS_pad x f a b hf ha hb hab]
    by_cases hd : f = stepR x f a b
    · rw [if_neg (fun h => h.2 (by rw [← hd])), if_neg (by simp [← hd])]; rfl
    · rw [if_pos ⟨rfl, fun e => hd (pad4_inj (stepR_len ..) e).symm⟩, if_pos (by simp [hd])]; rfl
theorem rowP_eq (x f : List Int) (c : Bool) (a : Int) (hf : f.length = x.length) (ha : -1 ≤ a ∧ a < x.length) : ∀ m, m ≤ x.length + 1 → rowP x.length (pad4 x) (pad4 f) c a m = (rowR x f c a m).map (encR x f)
  | 0, _ => rfl
  | m + 1, h => by rw [rowP, rowR, List.map_append, rowP_eq x f c a hf ha m (by omega), itP_eq x f c a _ hf ha (by omega)]
theorem allP_eq (x f : List Int) (c : Bool) (hf : f.length = x.length) : ∀ k, k ≤ x.length + 1 → allP x.length (pad4 x) (pad4 f) c k = (allR x f c k).map (encR x f)
  | 0, _ => rfl
  | k + 1, h => by rw [allP, allR, List.map_append, allP_eq x f c hf k (by omega), rowP_eq x f c _ hf (by omega) _ (by omega)]
/-- The steps of jugs, as they are handed on. -/
def itemsJ (x f : List Int) (c : Bool) : List (List VV) := (allR x f c (x.length + 1)).map fun p => encI (encR x f p)
theorem four {P : List Int} (h : P.length = 4) : ∃ a b c d, P = [a, b, c, d] := by
  rcases P with _ | ⟨a, _ | ⟨b, _ | ⟨d, _ | ⟨e, _ | ⟨f, r⟩⟩⟩⟩⟩ <;> first | exact ⟨_, _, _, _, rfl⟩ | simp at h
theorem pad4_bd (x f : List Int) (hx : x.length ≤ 4) (hq : ∀ i ∈ x, 1 ≤ i ∧ i ≤ 12) (hf : fillB x f = true) (i : Nat) : 0 ≤ (pad4 f).getD i 0 ∧ (pad4 f).getD i 0 ≤ (pad4 x).getD i 0 ∧ (pad4 x).getD i 0 ≤ 12 := by
  rw [fillB_iff] at hf
  rcases Nat.lt_or_ge i x.length with h | h
  · have h' : i < f.length := by omega
    rw [pad4_getD _ _ h, pad4_getD _ _ h', List.getD_eq_getElem?_getD, List.getD_eq_getElem?_getD, List.getElem?_eq_getElem h, List.getElem?_eq_getElem h']
    have := hf.2 i h' h
    have := hq _ (List.getElem_mem h)
    simp only [Option.getD_some]; omega
  · have e : ∀ (y : List Int), y.length = x.length → (pad4 y).getD i 0 = 0 := by
      intro y hy
      rw [List.getD_eq_getElem?_getD, pad4, List.getElem?_append_right (by omega), List.getElem?_replicate]
      split <;> rfl
    rw [e x rfl, e f hf.1]; omega
/-- The iterator of the steps, by the lists themselves. -/
theorem stepsIt (x f : List Int) (c : Bool) (hx : x.length ≤ 4) (hq : ∀ i ∈ x, 1 ≤ i ∧ i ≤ 12) (hf : fillB x f = true) : VIter cfg 65 [] [.p (.fp 0 [.fp 0 (jugC x c)]), .p (.fp 0 ((pad4 f).map pi))] false (itemsJ x f c) := by
  have hl : f.length = x.length := ((fillB_iff x f).1 hf).1
  obtain ⟨q0, q1, q2, q3, hQ⟩ := four (pad4_len x hx)
  obtain ⟨f0, f1, f2, f3, hF⟩ := four (pad4_len f (by omega))
  have bd := pad4_bd x f hx hq hf
  rw [hQ, hF] at bd
  have b0 := bd 0; have b1 := bd 1; have b2 := bd 2; have b3 := bd 3
  simp at b0 b1 b2 b3
  have := steps1_ok (n := x.length) (c := c) (q0 := q0) (q1 := q1) (q2 := q2) (q3 := q3) (f0 := f0) (f1 := f1) (f2 := f2) (f3 := f3) hx (by omega) (by omega) (by omega) (by omega)
  rw [allS_eq, ← hQ, ← hF, allP_eq x f c hl _ (Nat.le_refl _), List.map_map] at this
  unfold jugC
  rw [hQ, hF]
  exact this
theorem stepsJ_ok (x f : List Int) (c : Bool) (hx : x.length ≤ 4) (hf : f.length = x.length) : VCall cfg 47 [jugP x c, .agg ((pad4 f).map vi)] [] [] (.clos 65 [] [.p (.fp 0 [.fp 0 (jugC x c)]), .p (.fp 0 ((pad4 f).map pi))]) [] := by
  obtain ⟨q0, q1, q2, q3, hQ⟩ := four (pad4_len x hx)
  obtain ⟨f0, f1, f2, f3, hF⟩ := four (pad4_len f (by omega))
  unfold jugP jugC
  rw [hQ, hF]
  exact steps_ok (n := x.length)
set_option maxHeartbeats 4000000 in
theorem Steps_ok (x f : List Int) (c : Bool) (hx : okJ x) (hf : fillB x f = true) : VCall cfg 18 [sl1 x, sl1 f, vb c] [] [] (.tup [slP (allR x f c (x.length + 1)), vi 0]) [] := by
  have hl : x.length ≤ 9223372036854775807 := by have := hx.2.1; omega
  have hlf : f.length = x.length := ((fillB_iff x f).1 hf).1
  have ho := opens x c [f] hl (by simp; omega) (by simp)
  have hv : openV x [f] = 0 := by unfold openV; rw [if_pos hx, if_pos (by simp [hf])]
  rw [openJ, hv, if_pos rfl] at ho
  have hof := of_ok f (by have := hx.2.1; omega)
  have hst := stepsJ_ok x f c hx.2.1 hlf
  have hit := stepsIt x f c hx.2.1 (okJ_mem hx) hf
  have h25 := allR_len25 x f c hx.2.1
  unfold jugP at hst ho
  (refine VCall.mk (fn := a18) rfl rfl rfl ?_; simp only [a18, inV, mkB, nmsL, PT.set])
  (repeat (first | refine VC.seq ?_ | refine VC.block ?_ | refine VC.kill ?_ | refine VC.skip ?_ | refine VC.exit ?_ | refine VC.regA ?_ | refine VC.condT ?_ | refine VC.condF ?_))
  refine VC.regCA ?_
  refine VO.moreA ?_
  refine VO.frzA p16 ?_
  refine VO.call0A (no_orc 46 (by decide)) ho ?_
  refine VO.endA ?_
  (repeat (first | refine VC.seq ?_ | refine VC.block ?_ | refine VC.kill ?_ | refine VC.skip ?_ | refine VC.exit ?_ | refine VC.regA ?_ | refine VC.condT ?_ | refine VC.condF ?_))
  refine VC.regCA ?_
  refine VO.moreA ?_
  refine VO.call0A (no_orc 48 (by decide)) hof ?_
  refine VO.moreA ?_
  refine VO.call0A (no_orc 47 (by decide)) hst ?_
  refine VO.endA ?_
  (repeat (first | refine VC.seq ?_ | refine VC.block ?_ | refine VC.kill ?_ | refine VC.skip ?_ | refine VC.exit ?_ | refine VC.regA ?_ | refine VC.condT ?_ | refine VC.condF ?_))
  refine VC.ghost (G.adoptBA (p := p10) 0 2 p36 G.refl) ?_
  (simp only [VSt.kill, VSt.osob, VSt.adoptB, VSt.adopt, VSt.alloc, PT.filt, norefB, deadB, deadV, PT.map, Option.map_some, Option.map_none, List.map_cons, List.map_nil, noref, nos, nm, nmL, nmB, nmE, Pa.eqb, PT.set, mkB, inV, cond_true, cond_false, Bool.and_true, Bool.not_false, Bool.not_true, List.set_cons_zero, List.set_cons_succ])
  refine VC.rangeFA (fun (L : List (Int × Int)) => mkB [(p10, .cells [.os 2 p36 L.length]), (p36, .cells (flV L))] .lf) (fun i L => L = (allR x f c (x.length + 1)).take i) (x0 := []) [p10] (no_orc 65 (by decide)) hit ?_ ?_ (by simp) ?_ ?_ ?_
  · simp [NmOk, VSt.kill, VSt.adoptB, VSt.alloc, PT.filt, PT.set, nm, nmL, noref, nos, Pa.eqb]
  · simp [mkB, VSt.kill, VSt.adoptB, VSt.alloc, PT.filt, PT.map, deadB, deadV, noref, norefB, nos, nm, nmL, nmB, Pa.eqb, PT.set, PT.Le, flV]
  · intro y hy
    obtain ⟨p, _, rfl⟩ := List.mem_map.1 hy
    rfl
  · intro i L hlt hL
    have hlt' : i < (allR x f c (x.length + 1)).length := by rw [itemsJ, List.length_map] at hlt; exact hlt
    generalize hAB : (allR x f c (x.length + 1))[i] = ab
    have hi : (itemsJ x f c)[i] = encI (encR x f ab) := by simp only [itemsJ, List.getElem_map]; rw [hAB]
    have hnext : L ++ [ab] = (allR x f c (x.length + 1)).take (i + 1) := by rw [hL, List.take_add_one, List.getElem?_eq_getElem hlt', hAB]; rfl
    have hLi : L.length = i := by rw [hL, List.length_take]; omega
    obtain ⟨A, B⟩ := ab
    rw [hi]
    have hl2 := flV_len L
    have hnm := flV_nm L
    have hfl := flV_snoc L A B
    have hlen : (L ++ [(A, B)]).length = L.length + 1 := by simp
    simp only [encI, encR, ag2]
    (simp only [VSt.kill, VSt.osob, VSt.adoptB, VSt.adopt, VSt.alloc, PT.filt, norefB, deadB, deadV, PT.map, Option.map_some, Option.map_none, List.map_cons, List.map_nil, noref, nos, nm, nmL, nmB, nmE, Pa.eqb, PT.set, mkB, inV, cond_true, cond_false, Bool.and_true, Bool.not_false, Bool.not_true, List.set_cons_zero, List.set_cons_succ])
    (repeat (first | refine VC.seq ?_ | refine VC.block ?_ | refine VC.kill ?_ | refine VC.skip ?_ | refine VC.exit ?_ | refine VC.regA ?_ | refine VC.condT ?_ | refine VC.condF ?_))
    refine ⟨by simp, L ++ [(A, B)], hnext, ?_⟩
    (apply G.weak; constructor <;> simp (config := {decide := true}) only [PT.Le, inV, mkB, PT.set, VSt.kill, VSt.adopt, VSt.alloc, PT.filt, PT.map, List.map_cons, List.map_nil, noref, norefB, deadB, deadV, nos, nm, nmL, nmB, nmE, Pa.eqb, cond_true, cond_false, Bool.not_true, Bool.not_false, Bool.and_true, Bool.true_and, nmL_vi, flV_len, flP_len, flV_nm, flV_ok, flV_pv, flP_map, drop_flP, drop_flV, putC_flV, eqV2, eqV3, bneT, bneF, decide_true, decide_false, frzL_vi, frzL_flV, eqV_slice, eqV_ptr, eqV_func, nilS, nilP, nilF, nmL_append, true_or, or_true, and_self, true_and, and_true, Option.some.injEq, reduceCtorEq, false_or, or_false, VV.p.injEq, PV.at.injEq, Value.int.injEq, sl1, vi, bl1, vb, nilV, hfl, hlen, pi])
    (all_goals first | rfl | omega | exact ⟨rfl, by omega⟩)
  · intro _ L hL
    have hL : L = allR x f c (x.length + 1) := by rw [hL, itemsJ, List.length_map, List.take_length]
    rw [← hL]
    have hpv := flV_pv L
    (simp only [VSt.kill, VSt.osob, VSt.adoptB, VSt.adopt, VSt.alloc, PT.filt, norefB, deadB, deadV, PT.map, Option.map_some, Option.map_none, List.map_cons, List.map_nil, noref, nos, nm, nmL, nmB, nmE, Pa.eqb, PT.set, mkB, inV, cond_true, cond_false, Bool.and_true, Bool.not_false, Bool.not_true, List.set_cons_zero, List.set_cons_succ])
    (repeat (first | refine VC.seq ?_ | refine VC.block ?_ | refine VC.kill ?_ | refine VC.skip ?_ | refine VC.exit ?_ | refine VC.regA ?_ | refine VC.condT ?_ | refine VC.condF ?_))
    exact VC.ret (Fin.frzA p36 (hb := rfl) (hc := hpv) (Fin.A rfl))
end Go.Ab.Jug

namespace Go.Ab.Jug
open Go.Ab.V
set_option maxRecDepth 100000
/-- A name for a block that is handed over. -/
@[reducible] def pW : Pa := (.r (.r (.r (.r .z))))
theorem isR_bd {n : Nat} {a b : Int} (h : isR n a b = true) : (-1 ≤ a ∧ a < n) ∧ (-1 ≤ b ∧ b < n) ∧ a ≠ b := by
  simp only [isR, inR, Bool.and_eq_true, decide_eq_true_eq] at h
  exact ⟨h.1.1, h.1.2, h.2⟩
theorem fillB_getD {x f : List Int} (hf : fillB x f = true) (i : Nat) : 0 ≤ f.getD i 0 ∧ f.getD i 0 ≤ x.getD i 0 := by
  rw [fillB_iff] at hf
  rcases Nat.lt_or_ge i x.length with h | h
  · have h' : i < f.length := by omega
    rw [List.getD_eq_getElem?_getD, List.getD_eq_getElem?_getD, List.getElem?_eq_getElem h, List.getElem?_eq_getElem h']
    exact hf.2 i h' h
  · rw [List.getD_eq_getElem?_getD, List.getD_eq_getElem?_getD, List.getElem?_eq_none h, List.getElem?_eq_none (by omega)]
    simp
theorem fillB_set {x f : List Int} (hf : fillB x f = true) (i : Nat) (v : Int) (h0 : 0 ≤ v) (h1 : v ≤ x.getD i 0) : fillB x (f.set i v) = true := by
  rw [fillB_iff] at hf ⊢
  refine ⟨by rw [List.length_set]; exact hf.1, fun k h h' => ?_⟩
  rw [List.length_set] at h
  rw [List.getElem_set]
  split
  · rename_i e
    subst e
    rw [List.getD_eq_getElem?_getD, List.getElem?_eq_getElem h'] at h1
    exact ⟨h0, h1⟩
  · exact hf.2 k h h'
theorem getD_set_ne (f : List Int) (i j : Nat) (v : Int) (h : i ≠ j) : (f.set i v).getD j 0 = f.getD j 0 := by
  rw [List.getD_eq_getElem?_getD, List.getD_eq_getElem?_getD, List.getElem?_set_ne h]
theorem fill_step (x f : List Int) (a b : Int) (hf : fillB x f = true) (hab : a ≠ b) (ha : -1 ≤ a) (hb : -1 ≤ b) : fillB x (stepR x f a b) = true := by
  have g := fillB_getD hf
  have e : ∀ i, 0 ≤ x.getD i 0 := fun i => by have := g i; omega
  unfold stepR atQ
  split
  · exact fillB_set hf _ _ (e _) (Int.le_refl _)
  split
  · exact fillB_set hf _ _ (Int.le_refl _) (e _)
  · have g1 := g a.toNat
    have g2 := g b.toNat
    refine fillB_set (fillB_set hf _ _ ?_ ?_) _ _ ?_ ?_ <;> omega
/-- The filling after steps, as long as they are steps, and how many were done. -/
def pourR (x : List Int) : List Int → List (Int × Int) → List Int × Nat
  | f, [] => (f, 0)
  | f, p :: r => if isR x.length p.1 p.2 = true then ((pourR x (stepR x f p.1 p.2) r).1, (pourR x (stepR x f p.1 p.2) r).2 + 1) else (f, 0)
theorem pourR_fill (x : List Int) : ∀ (w : List (Int × Int)) (f : List Int), fillB x f = true → fillB x (pourR x f w).1 = true
  | [], f, h => h
  | p :: r, f, h => by
    unfold pourR
    split
    · rename_i hp
      have := isR_bd hp
      exact pourR_fill x r _ (fill_step x f _ _ h this.2.2 this.1.1 this.2.1.1)
    · exact h
theorem pourR_drop (x f : List Int) (w : List (Int × Int)) (i : Nat) (h : i < w.length) : pourR x f (w.drop i) = if isR x.length w[i].1 w[i].2 = true then ((pourR x (stepR x f w[i].1 w[i].2) (w.drop (i + 1))).1, (pourR x (stepR x f w[i].1 w[i].2) (w.drop (i + 1))).2 + 1) else (f, 0) := by
  rw [List.drop_eq_getElem_cons h]; rfl
theorem isJ_ok (x : List Int) (c : Bool) {a b : Int} (hx : x.length ≤ 4) (ha : -9223372036854775808 ≤ a ∧ a ≤ 9223372036854775807) (hb : -9223372036854775808 ≤ b ∧ b ≤ 9223372036854775807) : VCall cfg 61 [ag2 a b, jugP x c] [] [] (vb (isS x.length c a b)) [] := by
  obtain ⟨q0, q1, q2, q3, hQ⟩ := four (pad4_len x hx)
  unfold jugP jugC
  rw [hQ]
  exact is_ok ha hb hx
theorem doJ_ok (x f : List Int) (c : Bool) {a b : Int} (hx : x.length ≤ 4) (hq : ∀ i ∈ x, 1 ≤ i ∧ i ≤ 12) (hf : fillB x f = true) (h : isR x.length a b = true) : VCall cfg 62 [ag2 a b, jugP x c, .agg ((pad4 f).map vi)] [] [] (.agg ((pad4 (stepR x f a b)).map vi)) [] := by
  have hl : f.length = x.length := ((fillB_iff x f).1 hf).1
  have hb := isR_bd h
  have hd := doS_pad x f a b hl hb.1 hb.2.1 hb.2.2
  obtain ⟨q0, q1, q2, q3, hQ⟩ := four (pad4_len x hx)
  obtain ⟨f0, f1, f2, f3, hF⟩ := four (pad4_len f (by omega))
  have bd := pad4_bd x f hx hq hf
  unfold jugP jugC
  rw [hQ, hF] at bd
  rw [hQ, hF, ← hd]
  have b0 := bd 0; have b1 := bd 1; have b2 := bd 2; have b3 := bd 3
  simp at b0 b1 b2 b3
  rw [hQ, hF]
  exact do_ok (n := x.length) (c := c) (by omega) (by omega) hb.2.2 (by omega) (by omega) (by omega) (by omega)
theorem isS_open (n : Nat) (a b : Int) : isS n false a b = isR n a b := by simp [isS, isR]
theorem Clone_ok (n : Nat) (cs : List PV) (h0 : 1 ≤ n) (hl : n ≤ 1000) (hc : cs.length = n) (hk : (cs.map VV.p).all okV = true) (hnm : nmL (cs.map VV.p) = []) (hp : toPVs (cs.map VV.p) = some cs) : VCall cfg 63 [.p (.sl 1 n cs)] [] [] (.p (.sl 1 n cs)) [] := by
  (refine VCall.mk (fn := a63) rfl rfl rfl ?_; simp only [a63, inV, mkB, nmsL, PT.set])
  have h : n ≠ 0 := by omega
  (repeat (first | refine VC.seq ?_ | refine VC.block ?_ | refine VC.kill ?_ | refine VC.skip ?_ | refine VC.exit ?_ | refine VC.regA ?_ | refine VC.condT ?_ | refine VC.condF ?_))
  apply VC.regU
  · (simp (config := {decide := false, maxSteps := 1000000}) (disch := omega) only [vev_call, putC_c0, putC_n0, putC_cs, ble0, List.getElem?_cons_zero, List.getElem?_cons_succ, runU, isCall, wantV, vev, evV, ofVal, ofAtom, atomB, cond_true, cond_false, PT.get, PT.set, PT.filt, PT.map, Option.getD_some, Option.getD_none, ret1V, ret1X, v_ld, v_ias, v_iad, v_fad, v_slsl, v_slarr, v_st, v_app, v_cpy, v_len, v_look, v_mset, elsV, partV, newV, free, atV, atI, atL, toVal, cellsV, okV, VSt.put, VSt.kill, VSt.alloc, VSt.frz, VSt.adopt, noref, norefB, deadB, deadV, nos, nm, nmL, nmB, nmE, Pa.eqb, Bool.not_false, Bool.not_true, Bool.and_true, Bool.true_and, Bool.false_and, Bool.and_false, bin, intOps, intBin, cvt, un, goInt, bndsV, bndV, Option.map_some, Option.map_none, List.map_cons, List.map_nil, Int.toNat_natCast, Nat.mul_one, Nat.zero_add, beq_true, beq_false, beq_self_eq_true, List.length_map, List.length_cons, List.length_nil, List.length_append, fillV, pEvV, repsV, List.append_nil, List.nil_append, if_pos, if_neg, reduceIte, List.getElem?_map, List.getElem?_drop, Nat.add_zero, List.getElem?_eq_getElem, Go.IntWalk.i64_in, wrap_u64, tmod_pos, eq_self, true_and, and_true, and_self, List.all_cons, List.all_nil, nmL_vi, flV_len, flP_len, flV_nm, flV_ok, flV_pv, flP_map, drop_flP, drop_flV, putC_flV, eqV2, eqV3, bneT, bneF, decide_true, decide_false, frzL_vi, frzL_flV, eqV_slice, eqV_ptr, eqV_func, nilS, nilP, nilF, nmL_append, okL_vi, toPVs_vi, toPVs, toPV, frzV, frzL, frzB, resVV, vi, vb, nilV, sl1, bl1, pi, foldV, max2, min2, max_eq, min_eq, Int.tdiv_eq_ediv_of_nonneg, Int.cast_ofNat_Int, Option.isSome_none, Option.isSome_some, Option.isNone_none, Option.isNone_some, and_false, false_and, sl2, sl1P, slP, min_cast, take_map_pi, map_pi, Nat.sub_zero, Nat.zero_mul, List.length_take, decide_eq_true, decide_eq_false, Bool.true_eq_false, Bool.false_eq_true, beqT, beqF, ibeq, ibne, List.take_zero, List.take_succ_cons, List.drop_zero, List.drop_succ_cons, List.drop_nil, List.take_nil, List.cons_append, Bool.not_true, Bool.not_false, hc, hk, hnm])
    rfl
  (repeat (first | refine VC.seq ?_ | refine VC.block ?_ | refine VC.kill ?_ | refine VC.skip ?_ | refine VC.exit ?_ | refine VC.regA ?_ | refine VC.condT ?_ | refine VC.condF ?_))
  exact VC.ret (Fin.frzA p5 (hb := rfl) (hc := hp) (Fin.A rfl))
theorem CloneI_ok (l : List Int) (h0 : 1 ≤ l.length) (hl : l.length ≤ 1000) : VCall cfg 63 [sl1 l] [] [] (sl1 l) [] :=
  Clone_ok l.length (l.map pi) h0 hl (by simp) (by rw [map_pi]; exact okL_vi l) (by rw [map_pi]; exact nmL_vi l) (by rw [map_pi]; exact toPVs_vi l)
set_option maxHeartbeats 4000000 in
theorem PourR_ok (x f : List Int) (w : List (Int × Int)) (hx : okJ x) (hf : fillB x f = true) (hw : ∀ p ∈ w, (-9223372036854775808 ≤ p.1 ∧ p.1 ≤ 9223372036854775807) ∧ -9223372036854775808 ≤ p.2 ∧ p.2 ≤ 9223372036854775807) (hwl : w.length ≤ 9223372036854775807) :
    VCall cfg 35 [sl1 x, sl1 f, slP w] [] [] (.tup [sl1 (pourR x f w).1, vi (pourR x f w).2]) [] := by
  (refine VCall.mk (fn := a35) rfl rfl rfl ?_; simp only [a35, inV, mkB, nmsL, PT.set])
  (repeat (first | refine VC.seq ?_ | refine VC.block ?_ | refine VC.kill ?_ | refine VC.skip ?_ | refine VC.exit ?_ | refine VC.regA ?_ | refine VC.condT ?_ | refine VC.condF ?_))
  refine VC.loopG (fun (q : List Int × Nat) => ⟨inV [p0, p1, p2, p8] [sl1 x, sl1 q.1, slP w, vi q.2] .lf, .lf, [], none⟩) (fun n q => n = w.length - q.2 ∧ q.2 ≤ w.length ∧ fillB x q.1 = true ∧ pourR x f w = ((pourR x q.1 (w.drop q.2)).1, (pourR x q.1 (w.drop q.2)).2 + q.2)) (x := (f, 0)) ?_ ⟨rfl, Nat.zero_le _, hf, rfl⟩ ?_
  · (apply G.weak; constructor <;> simp (config := {decide := true}) only [PT.Le, inV, mkB, PT.set, VSt.kill, VSt.adopt, VSt.alloc, PT.filt, PT.map, List.map_cons, List.map_nil, noref, norefB, deadB, deadV, nos, nm, nmL, nmB, nmE, Pa.eqb, cond_true, cond_false, Bool.not_true, Bool.not_false, Bool.and_true, Bool.true_and, nmL_vi, flV_len, flP_len, flV_nm, flV_ok, flV_pv, flP_map, drop_flP, drop_flV, putC_flV, eqV2, eqV3, bneT, bneF, decide_true, decide_false, frzL_vi, frzL_flV, eqV_slice, eqV_ptr, eqV_func, nilS, nilP, nilF, nmL_append, true_or, or_true, and_self, true_and, and_true, Option.some.injEq, reduceCtorEq, false_or, or_false, VV.p.injEq, PV.at.injEq, Value.int.injEq, sl1, vi, bl1, vb, nilV, pi, slP])
  rintro n ⟨g, i⟩ ⟨hn, hi, hg, he⟩
  simp only at hn hi hg he
  simp only [inV, PT.set, mkB]
  (repeat (first | refine VC.seq ?_ | refine VC.block ?_ | refine VC.kill ?_ | refine VC.skip ?_ | refine VC.exit ?_ | refine VC.regA ?_ | refine VC.condT ?_ | refine VC.condF ?_))
  refine VC.condA ?_ ?_ <;> intro h <;> (simp only [decide_eq_true_eq, decide_eq_false_iff_not, bne_iff_ne, ne_eq, bne_eq_false_iff_eq, beq_iff_eq, beq_eq_false_iff_ne, Bool.not_eq_true', Bool.not_eq_false', Bool.and_eq_true, Bool.or_eq_true, Int.natCast_inj] at h)
  · have h : i < w.length := by omega
    have hwi := hw _ (List.getElem_mem h)
    have hlg : g.length = x.length := ((fillB_iff x g).1 hg).1
    have k1 := stepR_ok x g w[i].1 w[i].2 hx.2.1 hlg (by omega) (by omega) (okJ_mem hx) ((fillB_iff x g).1 hg).2 hx.1
    rw [pourR_drop _ _ _ _ h] at he
    simp only [ag2] at k1
    cases hR : isR x.length w[i].1 w[i].2 with
    | false =>
      rw [hR] at k1 he
      simp only [Bool.false_eq_true, if_false, Nat.zero_add] at k1 he
      rw [he]
      (repeat (first | refine VC.seq ?_ | refine VC.block ?_ | refine VC.kill ?_ | refine VC.skip ?_ | refine VC.exit ?_ | refine VC.regA ?_ | refine VC.condT ?_ | refine VC.condF ?_))
      (refine VC.regCA ?_; refine VO.moreA ?_; refine VO.call0A (no_orc _ (by decide)) k1 ?_; refine VO.endA ?_; (repeat (first | refine VC.seq ?_ | refine VC.block ?_ | refine VC.kill ?_ | refine VC.skip ?_ | refine VC.exit ?_ | refine VC.regA ?_ | refine VC.condT ?_ | refine VC.condF ?_)))
      exact VC.ret (Fin.A rfl)
    | true =>
      rw [hR] at k1 he
      simp only [if_true] at k1 he
      have hb := isR_bd hR
      (repeat (first | refine VC.seq ?_ | refine VC.block ?_ | refine VC.kill ?_ | refine VC.skip ?_ | refine VC.exit ?_ | refine VC.regA ?_ | refine VC.condT ?_ | refine VC.condF ?_))
      (refine VC.regCA ?_; refine VO.moreA ?_; refine VO.call0A (no_orc _ (by decide)) k1 ?_; refine VO.endA ?_; (repeat (first | refine VC.seq ?_ | refine VC.block ?_ | refine VC.kill ?_ | refine VC.skip ?_ | refine VC.exit ?_ | refine VC.regA ?_ | refine VC.condT ?_ | refine VC.condF ?_)))
      refine ⟨_, (stepR x g w[i].1 w[i].2, i + 1), ?_, ⟨rfl, by simp only; omega, fill_step x g _ _ hg hb.2.2 hb.1.1 hb.2.1.1, by rw [he]; simp only [Nat.add_assoc, Nat.add_comm 1]⟩, ?_⟩
      · simp; omega
      · (apply G.weak; constructor <;> simp (config := {decide := true}) only [PT.Le, inV, mkB, PT.set, VSt.kill, VSt.adopt, VSt.alloc, PT.filt, PT.map, List.map_cons, List.map_nil, noref, norefB, deadB, deadV, nos, nm, nmL, nmB, nmE, Pa.eqb, cond_true, cond_false, Bool.not_true, Bool.not_false, Bool.and_true, Bool.true_and, nmL_vi, flV_len, flP_len, flV_nm, flV_ok, flV_pv, flP_map, drop_flP, drop_flV, putC_flV, eqV2, eqV3, bneT, bneF, decide_true, decide_false, frzL_vi, frzL_flV, eqV_slice, eqV_ptr, eqV_func, nilS, nilP, nilF, nmL_append, true_or, or_true, and_self, true_and, and_true, Option.some.injEq, reduceCtorEq, false_or, or_false, VV.p.injEq, PV.at.injEq, Value.int.injEq, sl1, vi, bl1, vb, nilV, pi, slP])
        (all_goals first | rfl | omega | exact ⟨rfl, by omega⟩)
  · have h : i = w.length := by omega
    subst h
    rw [List.drop_length] at he
    simp only [pourR, Nat.zero_add] at he
    rw [he]
    (repeat (first | refine VC.seq ?_ | refine VC.block ?_ | refine VC.kill ?_ | refine VC.skip ?_ | refine VC.exit ?_ | refine VC.regA ?_ | refine VC.condT ?_ | refine VC.condF ?_))
    exact VC.ret (Fin.A rfl)
set_option maxHeartbeats 4000000 in
theorem Pour_ok (x f : List Int) (w : List (Int × Int)) (hx : okJ x) (hf : fillB x f = true) (hw : ∀ p ∈ w, (-9223372036854775808 ≤ p.1 ∧ p.1 ≤ 9223372036854775807) ∧ -9223372036854775808 ≤ p.2 ∧ p.2 ≤ 9223372036854775807) (hwl : w.length ≤ 1000000000) :
    VCall cfg 40 [sl1 x, sl1 f, slP w] [] [] (.tup [sl1 (pourR x f w).1, vi (pourR x f w).2, vi 0]) [] := by
  have hl : x.length ≤ 9223372036854775807 := by have := hx.2.1; omega
  have hlf : f.length = x.length := ((fillB_iff x f).1 hf).1
  have ho := opens x false [f] hl (by simp; omega) (by simp)
  have hv : openV x [f] = 0 := by unfold openV; rw [if_pos hx, if_pos (by simp [hf])]
  rw [openJ, hv, if_pos rfl] at ho
  have hof := of_ok f (by have := hx.2.1; omega)
  have P4 : ∀ {g : List Int}, fillB x g = true → (pad4 g).length = 4 := fun hg => pad4_len _ (by rw [((fillB_iff x _).1 hg).1]; exact hx.2.1)
  have hP := P4 hf
  have hpc := putC_full [VV.p (.at (.int .i64 0)), .p (.at (.int .i64 0)), .p (.at (.int .i64 0)), .p (.at (.int .i64 0))] ((pad4 f).map vi) (by simp [hP])
  unfold jugP at ho
  (refine VCall.mk (fn := a40) rfl rfl rfl ?_; simp only [a40, inV, mkB, nmsL, PT.set])
  (repeat (first | refine VC.seq ?_ | refine VC.block ?_ | refine VC.kill ?_ | refine VC.skip ?_ | refine VC.exit ?_ | refine VC.regA ?_ | refine VC.condT ?_ | refine VC.condF ?_))
  refine VC.regCA ?_
  refine VO.moreA ?_
  refine VO.frzA p20 ?_
  refine VO.call0A (no_orc 46 (by decide)) ho ?_
  refine VO.endA ?_
  (repeat (first | refine VC.seq ?_ | refine VC.block ?_ | refine VC.kill ?_ | refine VC.skip ?_ | refine VC.exit ?_ | refine VC.regA ?_ | refine VC.condT ?_ | refine VC.condF ?_))
  refine VC.regCA ?_
  refine VO.moreA ?_
  refine VO.call0A (no_orc 48 (by decide)) hof ?_
  apply VO.uptoE
  · (simp (config := {decide := false, maxSteps := 1000000}) (disch := omega) only [vev_call, putC_c0, putC_n0, putC_cs, ble0, List.getElem?_cons_zero, List.getElem?_cons_succ, runU, isCall, wantV, vev, evV, ofVal, ofAtom, atomB, cond_true, cond_false, PT.get, PT.set, PT.filt, PT.map, Option.getD_some, Option.getD_none, ret1V, ret1X, v_ld, v_ias, v_iad, v_fad, v_slsl, v_slarr, v_st, v_app, v_cpy, v_len, v_look, v_mset, elsV, partV, newV, free, atV, atI, atL, toVal, cellsV, okV, VSt.put, VSt.kill, VSt.alloc, VSt.frz, VSt.adopt, noref, norefB, deadB, deadV, nos, nm, nmL, nmB, nmE, Pa.eqb, Bool.not_false, Bool.not_true, Bool.and_true, Bool.true_and, Bool.false_and, Bool.and_false, bin, intOps, intBin, cvt, un, goInt, bndsV, bndV, Option.map_some, Option.map_none, List.map_cons, List.map_nil, Int.toNat_natCast, Nat.mul_one, Nat.zero_add, beq_true, beq_false, beq_self_eq_true, List.length_map, List.length_cons, List.length_nil, List.length_append, fillV, pEvV, repsV, List.append_nil, List.nil_append, if_pos, if_neg, reduceIte, List.getElem?_map, List.getElem?_drop, Nat.add_zero, List.getElem?_eq_getElem, Go.IntWalk.i64_in, wrap_u64, tmod_pos, eq_self, true_and, and_true, and_self, List.all_cons, List.all_nil, nmL_vi, flV_len, flP_len, flV_nm, flV_ok, flV_pv, flP_map, drop_flP, drop_flV, putC_flV, eqV2, eqV3, bneT, bneF, decide_true, decide_false, frzL_vi, frzL_flV, eqV_slice, eqV_ptr, eqV_func, nilS, nilP, nilF, nmL_append, okL_vi, toPVs_vi, toPVs, toPV, frzV, frzL, frzB, resVV, vi, vb, nilV, sl1, bl1, pi, foldV, max2, min2, max_eq, min_eq, Int.tdiv_eq_ediv_of_nonneg, Int.cast_ofNat_Int, Option.isSome_none, Option.isSome_some, Option.isNone_none, Option.isNone_some, and_false, false_and, sl2, sl1P, slP, min_cast, take_map_pi, map_pi, Nat.sub_zero, Nat.zero_mul, List.length_take, decide_eq_true, decide_eq_false, Bool.true_eq_false, Bool.false_eq_true, beqT, beqF, ibeq, ibne, List.take_zero, List.take_succ_cons, List.drop_zero, List.drop_succ_cons, List.drop_nil, List.take_nil, List.cons_append, Bool.not_true, Bool.not_false, hP, hpc])
    rfl
  (repeat (first | refine VC.seq ?_ | refine VC.block ?_ | refine VC.kill ?_ | refine VC.skip ?_ | refine VC.exit ?_ | refine VC.regA ?_ | refine VC.condT ?_ | refine VC.condF ?_))
  refine VC.loopG (fun (q : List Int × Nat) => ⟨inV [p9, p11, p12, p29, p30, p31] [.p (.fp 0 (jugC x false)), .op 0 p11 0, vi q.2, slP w, vi w.length, vi q.2] .lf, mkB [(p11, .cells ((pad4 q.1).map vi))] .lf, [], none⟩) (fun n q => n = w.length - q.2 ∧ q.2 ≤ w.length ∧ fillB x q.1 = true ∧ pourR x f w = ((pourR x q.1 (w.drop q.2)).1, (pourR x q.1 (w.drop q.2)).2 + q.2)) (x := (f, 0)) ?_ ⟨rfl, Nat.zero_le _, hf, rfl⟩ ?_
  · (apply G.weak; constructor <;> simp (config := {decide := true}) only [PT.Le, inV, mkB, PT.set, VSt.kill, VSt.adopt, VSt.alloc, PT.filt, PT.map, List.map_cons, List.map_nil, noref, norefB, deadB, deadV, nos, nm, nmL, nmB, nmE, Pa.eqb, cond_true, cond_false, Bool.not_true, Bool.not_false, Bool.and_true, Bool.true_and, nmL_vi, flV_len, flP_len, flV_nm, flV_ok, flV_pv, flP_map, drop_flP, drop_flV, putC_flV, eqV2, eqV3, bneT, bneF, decide_true, decide_false, frzL_vi, frzL_flV, eqV_slice, eqV_ptr, eqV_func, nilS, nilP, nilF, nmL_append, true_or, or_true, and_self, true_and, and_true, Option.some.injEq, reduceCtorEq, false_or, or_false, VV.p.injEq, PV.at.injEq, Value.int.injEq, sl1, vi, bl1, vb, nilV, pi, slP])
  rintro n ⟨g, i⟩ ⟨hn, hi, hg, he⟩
  simp only at hn hi hg he
  simp only [inV, PT.set, mkB]
  (repeat (first | refine VC.seq ?_ | refine VC.block ?_ | refine VC.kill ?_ | refine VC.skip ?_ | refine VC.exit ?_ | refine VC.regA ?_ | refine VC.condT ?_ | refine VC.condF ?_))
  have hlg : g.length = x.length := ((fillB_iff x g).1 hg).1
  by_cases h : i < w.length
  · have hwi := hw _ (List.getElem_mem h)
    have k1 := isJ_ok x false (a := w[i].1) (b := w[i].2) hx.2.1 (by omega) (by omega)
    rw [isS_open] at k1
    rw [pourR_drop _ _ _ _ h] at he
    simp only [ag2, jugP] at k1
    cases hR : isR x.length w[i].1 w[i].2 with
    | false =>
      rw [hR] at k1 he
      simp only [Bool.false_eq_true, if_false, Nat.zero_add] at k1 he
      rw [he]
      (repeat (first | refine VC.seq ?_ | refine VC.block ?_ | refine VC.kill ?_ | refine VC.skip ?_ | refine VC.exit ?_ | refine VC.regA ?_ | refine VC.condT ?_ | refine VC.condF ?_))
      (refine VC.regCA ?_; refine VO.moreA ?_; refine VO.call0A (no_orc _ (by decide)) k1 ?_; refine VO.endA ?_; (repeat (first | refine VC.seq ?_ | refine VC.block ?_ | refine VC.kill ?_ | refine VC.skip ?_ | refine VC.exit ?_ | refine VC.regA ?_ | refine VC.condT ?_ | refine VC.condF ?_)))
      have hP1 := P4 hg
      have hx4 : x.length ≤ 4 := hx.2.1
      have hble : Nat.ble x.length 4 = true := by rw [Nat.ble_eq]; exact hx.2.1
      have htk : List.take x.length ((pad4 g).map pi) = g.map pi := by rw [← List.map_take, pad4, List.take_append_of_le_length (by omega), ← hlg, List.take_length]
      have k3 := CloneI_ok g (by rw [hlg]; exact hx.1) (by rw [hlg]; have := hx.2.1; omega)
      apply VC.regC
      · (simp (config := {decide := false, maxSteps := 1000000}) (disch := omega) only [vev_call, putC_c0, putC_n0, putC_cs, ble0, List.getElem?_cons_zero, List.getElem?_cons_succ, runU, isCall, wantV, vev, evV, ofVal, ofAtom, atomB, cond_true, cond_false, PT.get, PT.set, PT.filt, PT.map, Option.getD_some, Option.getD_none, ret1V, ret1X, v_ld, v_ias, v_iad, v_fad, v_slsl, v_slarr, v_st, v_app, v_cpy, v_len, v_look, v_mset, elsV, partV, newV, free, atV, atI, atL, toVal, cellsV, okV, VSt.put, VSt.kill, VSt.alloc, VSt.frz, VSt.adopt, noref, norefB, deadB, deadV, nos, nm, nmL, nmB, nmE, Pa.eqb, Bool.not_false, Bool.not_true, Bool.and_true, Bool.true_and, Bool.false_and, Bool.and_false, bin, intOps, intBin, cvt, un, goInt, bndsV, bndV, Option.map_some, Option.map_none, List.map_cons, List.map_nil, Int.toNat_natCast, Nat.mul_one, Nat.zero_add, beq_true, beq_false, beq_self_eq_true, List.length_map, List.length_cons, List.length_nil, List.length_append, fillV, pEvV, repsV, List.append_nil, List.nil_append, if_pos, if_neg, reduceIte, List.getElem?_map, List.getElem?_drop, Nat.add_zero, List.getElem?_eq_getElem, Go.IntWalk.i64_in, wrap_u64, tmod_pos, eq_self, true_and, and_true, and_self, List.all_cons, List.all_nil, nmL_vi, flV_len, flP_len, flV_nm, flV_ok, flV_pv, flP_map, drop_flP, drop_flV, putC_flV, eqV2, eqV3, bneT, bneF, decide_true, decide_false, frzL_vi, frzL_flV, eqV_slice, eqV_ptr, eqV_func, nilS, nilP, nilF, nmL_append, okL_vi, toPVs_vi, toPVs, toPV, frzV, frzL, frzB, resVV, vi, vb, nilV, sl1, bl1, pi, foldV, max2, min2, max_eq, min_eq, Int.tdiv_eq_ediv_of_nonneg, Int.cast_ofNat_Int, Option.isSome_none, Option.isSome_some, Option.isNone_none, Option.isNone_some, and_false, false_and, sl2, sl1P, slP, min_cast, take_map_pi, map_pi, Nat.sub_zero, Nat.zero_mul, List.length_take, decide_eq_true, decide_eq_false, Bool.true_eq_false, Bool.false_eq_true, beqT, beqF, ibeq, ibne, List.take_zero, List.take_succ_cons, List.drop_zero, List.drop_succ_cons, List.drop_nil, List.take_nil, List.cons_append, Bool.not_true, Bool.not_false, jugC])
        rfl
      refine VO.frzA p11 (hb := rfl) (hc := toPVs_vi (pad4 g)) ?_
      refine VO.call0A (no_orc 63 (by decide)) k3 ?_ (hl := ?_)
      rotate_left
      · (simp (config := {decide := false, maxSteps := 1000000}) (disch := omega) only [vev_call, putC_c0, putC_n0, putC_cs, ble0, List.getElem?_cons_zero, List.getElem?_cons_succ, runU, isCall, wantV, vev, evV, ofVal, ofAtom, atomB, cond_true, cond_false, PT.get, PT.set, PT.filt, PT.map, Option.getD_some, Option.getD_none, ret1V, ret1X, v_ld, v_ias, v_iad, v_fad, v_slsl, v_slarr, v_st, v_app, v_cpy, v_len, v_look, v_mset, elsV, partV, newV, free, atV, atI, atL, toVal, cellsV, okV, VSt.put, VSt.kill, VSt.alloc, VSt.frz, VSt.adopt, noref, norefB, deadB, deadV, nos, nm, nmL, nmB, nmE, Pa.eqb, Bool.not_false, Bool.not_true, Bool.and_true, Bool.true_and, Bool.false_and, Bool.and_false, bin, intOps, intBin, cvt, un, goInt, bndsV, bndV, Option.map_some, Option.map_none, List.map_cons, List.map_nil, Int.toNat_natCast, Nat.mul_one, Nat.zero_add, beq_true, beq_false, beq_self_eq_true, List.length_map, List.length_cons, List.length_nil, List.length_append, fillV, pEvV, repsV, List.append_nil, List.nil_append, if_pos, if_neg, reduceIte, List.getElem?_map, List.getElem?_drop, Nat.add_zero, List.getElem?_eq_getElem, Go.IntWalk.i64_in, wrap_u64, tmod_pos, eq_self, true_and, and_true, and_self, List.all_cons, List.all_nil, nmL_vi, flV_len, flP_len, flV_nm, flV_ok, flV_pv, flP_map, drop_flP, drop_flV, putC_flV, eqV2, eqV3, bneT, bneF, decide_true, decide_false, frzL_vi, frzL_flV, eqV_slice, eqV_ptr, eqV_func, nilS, nilP, nilF, nmL_append, okL_vi, toPVs_vi, toPVs, toPV, frzV, frzL, frzB, resVV, vi, vb, nilV, sl1, bl1, pi, foldV, max2, min2, max_eq, min_eq, Int.tdiv_eq_ediv_of_nonneg, Int.cast_ofNat_Int, Option.isSome_none, Option.isSome_some, Option.isNone_none, Option.isNone_some, and_false, false_and, sl2, sl1P, slP, min_cast, take_map_pi, map_pi, Nat.sub_zero, Nat.zero_mul, List.length_take, decide_eq_true, decide_eq_false, Bool.true_eq_false, Bool.false_eq_true, beqT, beqF, ibeq, ibne, List.take_zero, List.take_succ_cons, List.drop_zero, List.drop_succ_cons, List.drop_nil, List.take_nil, List.cons_append, Bool.not_true, Bool.not_false, hP1, hble, htk, hlg])
      refine VO.endA ?_
      (repeat (first | refine VC.seq ?_ | refine VC.block ?_ | refine VC.kill ?_ | refine VC.skip ?_ | refine VC.exit ?_ | refine VC.regA ?_ | refine VC.condT ?_ | refine VC.condF ?_))
      exact VC.ret (Fin.A rfl)
    | true =>
      have k2 := doJ_ok x g false hx.2.1 (okJ_mem hx) hg hR
      rw [hR] at k1 he
      simp only [if_true] at k1 he
      have hb := isR_bd hR
      have hg' := fill_step x g _ _ hg hb.2.2 hb.1.1 hb.2.1.1
      have hP1 := P4 hg
      have hP2 := P4 hg'
      have ht4 : List.take 4 ((pad4 g).map vi) = (pad4 g).map vi := List.take_of_length_le (by simp [hP1])
      have hpc2 := putC_full ((pad4 g).map vi) ((pad4 (stepR x g w[i].1 w[i].2)).map vi) (by simp [hP1, hP2])
      simp only [ag2, jugP] at k2
      (repeat (first | refine VC.seq ?_ | refine VC.block ?_ | refine VC.kill ?_ | refine VC.skip ?_ | refine VC.exit ?_ | refine VC.regA ?_ | refine VC.condT ?_ | refine VC.condF ?_))
      (refine VC.regCA ?_; refine VO.moreA ?_; refine VO.call0A (no_orc _ (by decide)) k1 ?_; refine VO.endA ?_; (repeat (first | refine VC.seq ?_ | refine VC.block ?_ | refine VC.kill ?_ | refine VC.skip ?_ | refine VC.exit ?_ | refine VC.regA ?_ | refine VC.condT ?_ | refine VC.condF ?_)))
      apply VC.regC
      · (simp (config := {decide := false, maxSteps := 1000000}) (disch := omega) only [vev_call, putC_c0, putC_n0, putC_cs, ble0, List.getElem?_cons_zero, List.getElem?_cons_succ, runU, isCall, wantV, vev, evV, ofVal, ofAtom, atomB, cond_true, cond_false, PT.get, PT.set, PT.filt, PT.map, Option.getD_some, Option.getD_none, ret1V, ret1X, v_ld, v_ias, v_iad, v_fad, v_slsl, v_slarr, v_st, v_app, v_cpy, v_len, v_look, v_mset, elsV, partV, newV, free, atV, atI, atL, toVal, cellsV, okV, VSt.put, VSt.kill, VSt.alloc, VSt.frz, VSt.adopt, noref, norefB, deadB, deadV, nos, nm, nmL, nmB, nmE, Pa.eqb, Bool.not_false, Bool.not_true, Bool.and_true, Bool.true_and, Bool.false_and, Bool.and_false, bin, intOps, intBin, cvt, un, goInt, bndsV, bndV, Option.map_some, Option.map_none, List.map_cons, List.map_nil, Int.toNat_natCast, Nat.mul_one, Nat.zero_add, beq_true, beq_false, beq_self_eq_true, List.length_map, List.length_cons, List.length_nil, List.length_append, fillV, pEvV, repsV, List.append_nil, List.nil_append, if_pos, if_neg, reduceIte, List.getElem?_map, List.getElem?_drop, Nat.add_zero, List.getElem?_eq_getElem, Go.IntWalk.i64_in, wrap_u64, tmod_pos, eq_self, true_and, and_true, and_self, List.all_cons, List.all_nil, nmL_vi, flV_len, flP_len, flV_nm, flV_ok, flV_pv, flP_map, drop_flP, drop_flV, putC_flV, eqV2, eqV3, bneT, bneF, decide_true, decide_false, frzL_vi, frzL_flV, eqV_slice, eqV_ptr, eqV_func, nilS, nilP, nilF, nmL_append, okL_vi, toPVs_vi, toPVs, toPV, frzV, frzL, frzB, resVV, vi, vb, nilV, sl1, bl1, pi, foldV, max2, min2, max_eq, min_eq, Int.tdiv_eq_ediv_of_nonneg, Int.cast_ofNat_Int, Option.isSome_none, Option.isSome_some, Option.isNone_none, Option.isNone_some, and_false, false_and, sl2, sl1P, slP, min_cast, take_map_pi, map_pi, Nat.sub_zero, Nat.zero_mul, List.length_take, decide_eq_true, decide_eq_false, Bool.true_eq_false, Bool.false_eq_true, beqT, beqF, ibeq, ibne, List.take_zero, List.take_succ_cons, List.drop_zero, List.drop_succ_cons, List.drop_nil, List.take_nil, List.cons_append, Bool.not_true, Bool.not_false, hP1, ht4])
        rfl
      refine VO.call0A (no_orc 62 (by decide)) k2 ?_
      apply VO.uptoE
      · (simp (config := {decide := false, maxSteps := 1000000}) (disch := omega) only [vev_call, putC_c0, putC_n0, putC_cs, ble0, List.getElem?_cons_zero, List.getElem?_cons_succ, runU, isCall, wantV, vev, evV, ofVal, ofAtom, atomB, cond_true, cond_false, PT.get, PT.set, PT.filt, PT.map, Option.getD_some, Option.getD_none, ret1V, ret1X, v_ld, v_ias, v_iad, v_fad, v_slsl, v_slarr, v_st, v_app, v_cpy, v_len, v_look, v_mset, elsV, partV, newV, free, atV, atI, atL, toVal, cellsV, okV, VSt.put, VSt.kill, VSt.alloc, VSt.frz, VSt.adopt, noref, norefB, deadB, deadV, nos, nm, nmL, nmB, nmE, Pa.eqb, Bool.not_false, Bool.not_true, Bool.and_true, Bool.true_and, Bool.false_and, Bool.and_false, bin, intOps, intBin, cvt, un, goInt, bndsV, bndV, Option.map_some, Option.map_none, List.map_cons, List.map_nil, Int.toNat_natCast, Nat.mul_one, Nat.zero_add, beq_true, beq_false, beq_self_eq_true, List.length_map, List.length_cons, List.length_nil, List.length_append, fillV, pEvV, repsV, List.append_nil, List.nil_append, if_pos, if_neg, reduceIte, List.getElem?_map, List.getElem?_drop, Nat.add_zero, List.getElem?_eq_getElem, Go.IntWalk.i64_in, wrap_u64, tmod_pos, eq_self, true_and, and_true, and_self, List.all_cons, List.all_nil, nmL_vi, flV_len, flP_len, flV_nm, flV_ok, flV_pv, flP_map, drop_flP, drop_flV, putC_flV, eqV2, eqV3, bneT, bneF, decide_true, decide_false, frzL_vi, frzL_flV, eqV_slice, eqV_ptr, eqV_func, nilS, nilP, nilF, nmL_append, okL_vi, toPVs_vi, toPVs, toPV, frzV, frzL, frzB, resVV, vi, vb, nilV, sl1, bl1, pi, foldV, max2, min2, max_eq, min_eq, Int.tdiv_eq_ediv_of_nonneg, Int.cast_ofNat_Int, Option.isSome_none, Option.isSome_some, Option.isNone_none, Option.isNone_some, and_false, false_and, sl2, sl1P, slP, min_cast, take_map_pi, map_pi, Nat.sub_zero, Nat.zero_mul, List.length_take, decide_eq_true, decide_eq_false, Bool.true_eq_false, Bool.false_eq_true, beqT, beqF, ibeq, ibne, List.take_zero, List.take_succ_cons, List.drop_zero, List.drop_succ_cons, List.drop_nil, List.take_nil, List.cons_append, Bool.not_true, Bool.not_false, hP1, hP2, hpc2])
        rfl
      (repeat (first | refine VC.seq ?_ | refine VC.block ?_ | refine VC.kill ?_ | refine VC.skip ?_ | refine VC.exit ?_ | refine VC.regA ?_ | refine VC.condT ?_ | refine VC.condF ?_))
      refine ⟨_, (stepR x g w[i].1 w[i].2, i + 1), ?_, ⟨rfl, by simp only; omega, hg', by rw [he]; simp only [Nat.add_assoc, Nat.add_comm 1]⟩, ?_⟩
      · simp; omega
      · (apply G.weak; constructor <;> simp (config := {decide := true}) only [PT.Le, inV, mkB, PT.set, VSt.kill, VSt.adopt, VSt.alloc, PT.filt, PT.map, List.map_cons, List.map_nil, noref, norefB, deadB, deadV, nos, nm, nmL, nmB, nmE, Pa.eqb, cond_true, cond_false, Bool.not_true, Bool.not_false, Bool.and_true, Bool.true_and, nmL_vi, flV_len, flP_len, flV_nm, flV_ok, flV_pv, flP_map, drop_flP, drop_flV, putC_flV, eqV2, eqV3, bneT, bneF, decide_true, decide_false, frzL_vi, frzL_flV, eqV_slice, eqV_ptr, eqV_func, nilS, nilP, nilF, nmL_append, true_or, or_true, and_self, true_and, and_true, Option.some.injEq, reduceCtorEq, false_or, or_false, VV.p.injEq, PV.at.injEq, Value.int.injEq, sl1, vi, bl1, vb, nilV, pi, slP])
        (all_goals first | rfl | omega | exact ⟨rfl, by omega⟩)
  · have h : i = w.length := by omega
    subst h
    rw [List.drop_length] at he
    simp only [pourR, Nat.zero_add] at he
    rw [he]
    (repeat (first | refine VC.seq ?_ | refine VC.block ?_ | refine VC.kill ?_ | refine VC.skip ?_ | refine VC.exit ?_ | refine VC.regA ?_ | refine VC.condT ?_ | refine VC.condF ?_))
    have hP1 := P4 hg
    have hx4 : x.length ≤ 4 := hx.2.1
    have hble : Nat.ble x.length 4 = true := by rw [Nat.ble_eq]; exact hx.2.1
    have htk : List.take x.length ((pad4 g).map pi) = g.map pi := by rw [← List.map_take, pad4, List.take_append_of_le_length (by omega), ← hlg, List.take_length]
    have k3 := CloneI_ok g (by rw [hlg]; exact hx.1) (by rw [hlg]; have := hx.2.1; omega)
    apply VC.regC
    · (simp (config := {decide := false, maxSteps := 1000000}) (disch := omega) only [vev_call, putC_c0, putC_n0, putC_cs, ble0, List.getElem?_cons_zero, List.getElem?_cons_succ, runU, isCall, wantV, vev, evV, ofVal, ofAtom, atomB, cond_true, cond_false, PT.get, PT.set, PT.filt, PT.map, Option.getD_some, Option.getD_none, ret1V, ret1X, v_ld, v_ias, v_iad, v_fad, v_slsl, v_slarr, v_st, v_app, v_cpy, v_len, v_look, v_mset, elsV, partV, newV, free, atV, atI, atL, toVal, cellsV, okV, VSt.put, VSt.kill, VSt.alloc, VSt.frz, VSt.adopt, noref, norefB, deadB, deadV, nos, nm, nmL, nmB, nmE, Pa.eqb, Bool.not_false, Bool.not_true, Bool.and_true, Bool.true_and, Bool.false_and, Bool.and_false, bin, intOps, intBin, cvt, un, goInt, bndsV, bndV, Option.map_some, Option.map_none, List.map_cons, List.map_nil, Int.toNat_natCast, Nat.mul_one, Nat.zero_add, beq_true, beq_false, beq_self_eq_true, List.length_map, List.length_cons, List.length_nil, List.length_append, fillV, pEvV, repsV, List.append_nil, List.nil_append, if_pos, if_neg, reduceIte, List.getElem?_map, List.getElem?_drop, Nat.add_zero, List.getElem?_eq_getElem, Go.IntWalk.i64_in, wrap_u64, tmod_pos, eq_self, true_and, and_true, and_self, List.all_cons, List.all_nil, nmL_vi, flV_len, flP_len, flV_nm, flV_ok, flV_pv, flP_map, drop_flP, drop_flV, putC_flV, eqV2, eqV3, bneT, bneF, decide_true, decide_false, frzL_vi, frzL_flV, eqV_slice, eqV_ptr, eqV_func, nilS, nilP, nilF, nmL_append, okL_vi, toPVs_vi, toPVs, toPV, frzV, frzL, frzB, resVV, vi, vb, nilV, sl1, bl1, pi, foldV, max2, min2, max_eq, min_eq, Int.tdiv_eq_ediv_of_nonneg, Int.cast_ofNat_Int, Option.isSome_none, Option.isSome_some, Option.isNone_none, Option.isNone_some, and_false, false_and, sl2, sl1P, slP, min_cast, take_map_pi, map_pi, Nat.sub_zero, Nat.zero_mul, List.length_take, decide_eq_true, decide_eq_false, Bool.true_eq_false, Bool.false_eq_true, beqT, beqF, ibeq, ibne, List.take_zero, List.take_succ_cons, List.drop_zero, List.drop_succ_cons, List.drop_nil, List.take_nil, List.cons_append, Bool.not_true, Bool.not_false, jugC])
      rfl
    refine VO.frzA p11 (hb := rfl) (hc := toPVs_vi (pad4 g)) ?_
    refine VO.call0A (no_orc 63 (by decide)) k3 ?_ (hl := ?_)
    rotate_left
    · (simp (config := {decide := false, maxSteps := 1000000}) (disch := omega) only [vev_call, putC_c0, putC_n0, putC_cs, ble0, List.getElem?_cons_zero, List.getElem?_cons_succ, runU, isCall, wantV, vev, evV, ofVal, ofAtom, atomB, cond_true, cond_false, PT.get, PT.set, PT.filt, PT.map, Option.getD_some, Option.getD_none, ret1V, ret1X, v_ld, v_ias, v_iad, v_fad, v_slsl, v_slarr, v_st, v_app, v_cpy, v_len, v_look, v_mset, elsV, partV, newV, free, atV, atI, atL, toVal, cellsV, okV, VSt.put, VSt.kill, VSt.alloc, VSt.frz, VSt.adopt, noref, norefB, deadB, deadV, nos, nm, nmL, nmB, nmE, Pa.eqb, Bool.not_false, Bool.not_true, Bool.and_true, Bool.true_and, Bool.false_and, Bool.and_false, bin, intOps, intBin, cvt, un, goInt, bndsV, bndV, Option.map_some, Option.map_none, List.map_cons, List.map_nil, Int.toNat_natCast, Nat.mul_one, Nat.zero_add, beq_true, beq_false, beq_self_eq_true, List.length_map, List.length_cons, List.length_nil, List.length_append, fillV, pEvV, repsV, List.append_nil, List.nil_append, if_pos, if_neg, reduceIte, List.getElem?_map, List.getElem?_drop, Nat.add_zero, List.getElem?_eq_getElem, Go.IntWalk.i64_in, wrap_u64, tmod_pos, eq_self, true_and, and_true, and_self, List.all_cons, List.all_nil, nmL_vi, flV_len, flP_len, flV_nm, flV_ok, flV_pv, flP_map, drop_flP, drop_flV, putC_flV, eqV2, eqV3, bneT, bneF, decide_true, decide_false, frzL_vi, frzL_flV, eqV_slice, eqV_ptr, eqV_func, nilS, nilP, nilF, nmL_append, okL_vi, toPVs_vi, toPVs, toPV, frzV, frzL, frzB, resVV, vi, vb, nilV, sl1, bl1, pi, foldV, max2, min2, max_eq, min_eq, Int.tdiv_eq_ediv_of_nonneg, Int.cast_ofNat_Int, Option.isSome_none, Option.isSome_some, Option.isNone_none, Option.isNone_some, and_false, false_and, sl2, sl1P, slP, min_cast, take_map_pi, map_pi, Nat.sub_zero, Nat.zero_mul, List.length_take, decide_eq_true, decide_eq_false, Bool.true_eq_false, Bool.false_eq_true, beqT, beqF, ibeq, ibne, List.take_zero, List.take_succ_cons, List.drop_zero, List.drop_succ_cons, List.drop_nil, List.take_nil, List.cons_append, Bool.not_true, Bool.not_false, hP1, hble, htk, hlg])
    refine VO.endA ?_
    (repeat (first | refine VC.seq ?_ | refine VC.block ?_ | refine VC.kill ?_ | refine VC.skip ?_ | refine VC.exit ?_ | refine VC.regA ?_ | refine VC.condT ?_ | refine VC.condF ?_))
    exact VC.ret (Fin.A rfl)
set_option maxHeartbeats 4000000 in
theorem PourRW_ok (x f : List Int) (w : List (Int × Int)) (hx : okJ x) (hf : fillB x f = true) (hw : ∀ p ∈ w, (-9223372036854775808 ≤ p.1 ∧ p.1 ≤ 9223372036854775807) ∧ -9223372036854775808 ≤ p.2 ∧ p.2 ≤ 9223372036854775807) (hwl : w.length ≤ 9223372036854775807) :
    VCall cfg 35 [sl1 x, sl1 f, .os 2 pW w.length] [(pW, .cells (flV w))] [] (.tup [sl1 (pourR x f w).1, vi (pourR x f w).2]) [(pW, .cells (flV w))] := by
  (refine VCall.mk (fn := a35) rfl rfl rfl ?_; simp only [a35, inV, mkB, nmsL, PT.set])
  (repeat (first | refine VC.seq ?_ | refine VC.block ?_ | refine VC.kill ?_ | refine VC.skip ?_ | refine VC.exit ?_ | refine VC.regA ?_ | refine VC.condT ?_ | refine VC.condF ?_))
  refine VC.loopG (fun (q : List Int × Nat) => ⟨inV [p0, p1, p2, p8] [sl1 x, sl1 q.1, .os 2 pW w.length, vi q.2] .lf, mkB [(pW, .cells (flV w))] .lf, [pW], none⟩) (fun n q => n = w.length - q.2 ∧ q.2 ≤ w.length ∧ fillB x q.1 = true ∧ pourR x f w = ((pourR x q.1 (w.drop q.2)).1, (pourR x q.1 (w.drop q.2)).2 + q.2)) (x := (f, 0)) ?_ ⟨rfl, Nat.zero_le _, hf, rfl⟩ ?_
  · (apply G.weak; constructor <;> simp (config := {decide := true}) only [PT.Le, inV, mkB, PT.set, VSt.kill, VSt.adopt, VSt.alloc, PT.filt, PT.map, List.map_cons, List.map_nil, noref, norefB, deadB, deadV, nos, nm, nmL, nmB, nmE, Pa.eqb, cond_true, cond_false, Bool.not_true, Bool.not_false, Bool.and_true, Bool.true_and, nmL_vi, flV_len, flP_len, flV_nm, flV_ok, flV_pv, flP_map, drop_flP, drop_flV, putC_flV, eqV2, eqV3, bneT, bneF, decide_true, decide_false, frzL_vi, frzL_flV, eqV_slice, eqV_ptr, eqV_func, nilS, nilP, nilF, nmL_append, true_or, or_true, and_self, true_and, and_true, Option.some.injEq, reduceCtorEq, false_or, or_false, VV.p.injEq, PV.at.injEq, Value.int.injEq, sl1, vi, bl1, vb, nilV, pi, slP])
  rintro n ⟨g, i⟩ ⟨hn, hi, hg, he⟩
  simp only at hn hi hg he
  simp only [inV, PT.set, mkB]
  (repeat (first | refine VC.seq ?_ | refine VC.block ?_ | refine VC.kill ?_ | refine VC.skip ?_ | refine VC.exit ?_ | refine VC.regA ?_ | refine VC.condT ?_ | refine VC.condF ?_))
  refine VC.condA ?_ ?_ <;> intro h <;> (simp only [decide_eq_true_eq, decide_eq_false_iff_not, bne_iff_ne, ne_eq, bne_eq_false_iff_eq, beq_iff_eq, beq_eq_false_iff_ne, Bool.not_eq_true', Bool.not_eq_false', Bool.and_eq_true, Bool.or_eq_true, Int.natCast_inj] at h)
  · have h : i < w.length := by omega
    have hwi := hw _ (List.getElem_mem h)
    have hlg : g.length = x.length := ((fillB_iff x g).1 hg).1
    have k1 := stepR_ok x g w[i].1 w[i].2 hx.2.1 hlg (by omega) (by omega) (okJ_mem hx) ((fillB_iff x g).1 hg).2 hx.1
    rw [pourR_drop _ _ _ _ h] at he
    simp only [ag2] at k1
    cases hR : isR x.length w[i].1 w[i].2 with
    | false =>
      rw [hR] at k1 he
      simp only [Bool.false_eq_true, if_false, Nat.zero_add] at k1 he
      rw [he]
      (repeat (first | refine VC.seq ?_ | refine VC.block ?_ | refine VC.kill ?_ | refine VC.skip ?_ | refine VC.exit ?_ | refine VC.regA ?_ | refine VC.condT ?_ | refine VC.condF ?_))
      (refine VC.regCA ?_; refine VO.moreA ?_; refine VO.call0A (no_orc _ (by decide)) k1 ?_; refine VO.endA ?_; (repeat (first | refine VC.seq ?_ | refine VC.block ?_ | refine VC.kill ?_ | refine VC.skip ?_ | refine VC.exit ?_ | refine VC.regA ?_ | refine VC.condT ?_ | refine VC.condF ?_)))
      exact VC.ret (Fin.of rfl rfl (by simp [mkB, PT.set, PT.Le]) rfl rfl (by simp [nmsB, nmB, nmL, nm, flV_nm, subs, nos, Pa.eqb, sl1, vi]))
    | true =>
      rw [hR] at k1 he
      simp only [if_true] at k1 he
      have hb := isR_bd hR
      (repeat (first | refine VC.seq ?_ | refine VC.block ?_ | refine VC.kill ?_ | refine VC.skip ?_ | refine VC.exit ?_ | refine VC.regA ?_ | refine VC.condT ?_ | refine VC.condF ?_))
      (refine VC.regCA ?_; refine VO.moreA ?_; refine VO.call0A (no_orc _ (by decide)) k1 ?_; refine VO.endA ?_; (repeat (first | refine VC.seq ?_ | refine VC.block ?_ | refine VC.kill ?_ | refine VC.skip ?_ | refine VC.exit ?_ | refine VC.regA ?_ | refine VC.condT ?_ | refine VC.condF ?_)))
      refine ⟨_, (stepR x g w[i].1 w[i].2, i + 1), ?_, ⟨rfl, by simp only; omega, fill_step x g _ _ hg hb.2.2 hb.1.1 hb.2.1.1, by rw [he]; simp only [Nat.add_assoc, Nat.add_comm 1]⟩, ?_⟩
      · simp; omega
      · (apply G.weak; constructor <;> simp (config := {decide := true}) only [PT.Le, inV, mkB, PT.set, VSt.kill, VSt.adopt, VSt.alloc, PT.filt, PT.map, List.map_cons, List.map_nil, noref, norefB, deadB, deadV, nos, nm, nmL, nmB, nmE, Pa.eqb, cond_true, cond_false, Bool.not_true, Bool.not_false, Bool.and_true, Bool.true_and, nmL_vi, flV_len, flP_len, flV_nm, flV_ok, flV_pv, flP_map, drop_flP, drop_flV, putC_flV, eqV2, eqV3, bneT, bneF, decide_true, decide_false, frzL_vi, frzL_flV, eqV_slice, eqV_ptr, eqV_func, nilS, nilP, nilF, nmL_append, true_or, or_true, and_self, true_and, and_true, Option.some.injEq, reduceCtorEq, false_or, or_false, VV.p.injEq, PV.at.injEq, Value.int.injEq, sl1, vi, bl1, vb, nilV, pi, slP])
        (all_goals first | rfl | omega | exact ⟨rfl, by omega⟩)
  · have h : i = w.length := by omega
    subst h
    rw [List.drop_length] at he
    simp only [pourR, Nat.zero_add] at he
    rw [he]
    (repeat (first | refine VC.seq ?_ | refine VC.block ?_ | refine VC.kill ?_ | refine VC.skip ?_ | refine VC.exit ?_ | refine VC.regA ?_ | refine VC.condT ?_ | refine VC.condF ?_))
    exact VC.ret (Fin.of rfl rfl (by simp [mkB, PT.set, PT.Le]) rfl rfl (by simp [nmsB, nmB, nmL, nm, flV_nm, subs, nos, Pa.eqb, sl1, vi]))
set_option maxHeartbeats 4000000 in
theorem PourW_ok (x f : List Int) (w : List (Int × Int)) (hx : okJ x) (hf : fillB x f = true) (hw : ∀ p ∈ w, (-9223372036854775808 ≤ p.1 ∧ p.1 ≤ 9223372036854775807) ∧ -9223372036854775808 ≤ p.2 ∧ p.2 ≤ 9223372036854775807) (hwl : w.length ≤ 1000000000) :
    VCall cfg 40 [sl1 x, sl1 f, .os 2 pW w.length] [(pW, .cells (flV w))] [] (.tup [sl1 (pourR x f w).1, vi (pourR x f w).2, vi 0]) [(pW, .cells (flV w))] := by
  have hl : x.length ≤ 9223372036854775807 := by have := hx.2.1; omega
  have hlf : f.length = x.length := ((fillB_iff x f).1 hf).1
  have ho := opens x false [f] hl (by simp; omega) (by simp)
  have hv : openV x [f] = 0 := by unfold openV; rw [if_pos hx, if_pos (by simp [hf])]
  rw [openJ, hv, if_pos rfl] at ho
  have hof := of_ok f (by have := hx.2.1; omega)
  have P4 : ∀ {g : List Int}, fillB x g = true → (pad4 g).length = 4 := fun hg => pad4_len _ (by rw [((fillB_iff x _).1 hg).1]; exact hx.2.1)
  have hP := P4 hf
  have hpc := putC_full [VV.p (.at (.int .i64 0)), .p (.at (.int .i64 0)), .p (.at (.int .i64 0)), .p (.at (.int .i64 0))] ((pad4 f).map vi) (by simp [hP])
  unfold jugP at ho
  (refine VCall.mk (fn := a40) rfl rfl rfl ?_; simp only [a40, inV, mkB, nmsL, PT.set])
  (repeat (first | refine VC.seq ?_ | refine VC.block ?_ | refine VC.kill ?_ | refine VC.skip ?_ | refine VC.exit ?_ | refine VC.regA ?_ | refine VC.condT ?_ | refine VC.condF ?_))
  refine VC.regCA ?_
  refine VO.moreA ?_
  refine VO.frzA p20 ?_
  refine VO.call0A (no_orc 46 (by decide)) ho ?_
  refine VO.endA ?_
  (repeat (first | refine VC.seq ?_ | refine VC.block ?_ | refine VC.kill ?_ | refine VC.skip ?_ | refine VC.exit ?_ | refine VC.regA ?_ | refine VC.condT ?_ | refine VC.condF ?_))
  refine VC.regCA ?_
  refine VO.moreA ?_
  refine VO.call0A (no_orc 48 (by decide)) hof ?_
  apply VO.uptoE
  · (simp (config := {decide := false, maxSteps := 1000000}) (disch := omega) only [vev_call, putC_c0, putC_n0, putC_cs, ble0, List.getElem?_cons_zero, List.getElem?_cons_succ, runU, isCall, wantV, vev, evV, ofVal, ofAtom, atomB, cond_true, cond_false, PT.get, PT.set, PT.filt, PT.map, Option.getD_some, Option.getD_none, ret1V, ret1X, v_ld, v_ias, v_iad, v_fad, v_slsl, v_slarr, v_st, v_app, v_cpy, v_len, v_look, v_mset, elsV, partV, newV, free, atV, atI, atL, toVal, cellsV, okV, VSt.put, VSt.kill, VSt.alloc, VSt.frz, VSt.adopt, noref, norefB, deadB, deadV, nos, nm, nmL, nmB, nmE, Pa.eqb, Bool.not_false, Bool.not_true, Bool.and_true, Bool.true_and, Bool.false_and, Bool.and_false, bin, intOps, intBin, cvt, un, goInt, bndsV, bndV, Option.map_some, Option.map_none, List.map_cons, List.map_nil, Int.toNat_natCast, Nat.mul_one, Nat.zero_add, beq_true, beq_false, beq_self_eq_true, List.length_map, List.length_cons, List.length_nil, List.length_append, fillV, pEvV, repsV, List.append_nil, List.nil_append, if_pos, if_neg, reduceIte, List.getElem?_map, List.getElem?_drop, Nat.add_zero, List.getElem?_eq_getElem, Go.IntWalk.i64_in, wrap_u64, tmod_pos, eq_self, true_and, and_true, and_self, List.all_cons, List.all_nil, nmL_vi, flV_len, flP_len, flV_nm, flV_ok, flV_pv, flP_map, drop_flP, drop_flV, putC_flV, eqV2, eqV3, bneT, bneF, decide_true, decide_false, frzL_vi, frzL_flV, eqV_slice, eqV_ptr, eqV_func, nilS, nilP, nilF, nmL_append, okL_vi, toPVs_vi, toPVs, toPV, frzV, frzL, frzB, resVV, vi, vb, nilV, sl1, bl1, pi, foldV, max2, min2, max_eq, min_eq, Int.tdiv_eq_ediv_of_nonneg, Int.cast_ofNat_Int, Option.isSome_none, Option.isSome_some, Option.isNone_none, Option.isNone_some, and_false, false_and, sl2, sl1P, slP, min_cast, take_map_pi, map_pi, Nat.sub_zero, Nat.zero_mul, List.length_take, decide_eq_true, decide_eq_false, Bool.true_eq_false, Bool.false_eq_true, beqT, beqF, ibeq, ibne, List.take_zero, List.take_succ_cons, List.drop_zero, List.drop_succ_cons, List.drop_nil, List.take_nil, List.cons_append, Bool.not_true, Bool.not_false, hP, hpc])
    rfl
  (repeat (first | refine VC.seq ?_ | refine VC.block ?_ | refine VC.kill ?_ | refine VC.skip ?_ | refine VC.exit ?_ | refine VC.regA ?_ | refine VC.condT ?_ | refine VC.condF ?_))
  refine VC.loopG (fun (q : List Int × Nat) => ⟨inV [p9, p11, p12, p29, p30, p31] [.p (.fp 0 (jugC x false)), .op 0 p11 0, vi q.2, .os 2 pW w.length, vi w.length, vi q.2] .lf, mkB [(pW, .cells (flV w)), (p11, .cells ((pad4 q.1).map vi))] .lf, [pW], none⟩) (fun n q => n = w.length - q.2 ∧ q.2 ≤ w.length ∧ fillB x q.1 = true ∧ pourR x f w = ((pourR x q.1 (w.drop q.2)).1, (pourR x q.1 (w.drop q.2)).2 + q.2)) (x := (f, 0)) ?_ ⟨rfl, Nat.zero_le _, hf, rfl⟩ ?_
  · (apply G.weak; constructor <;> simp (config := {decide := true}) only [PT.Le, inV, mkB, PT.set, VSt.kill, VSt.adopt, VSt.alloc, PT.filt, PT.map, List.map_cons, List.map_nil, noref, norefB, deadB, deadV, nos, nm, nmL, nmB, nmE, Pa.eqb, cond_true, cond_false, Bool.not_true, Bool.not_false, Bool.and_true, Bool.true_and, nmL_vi, flV_len, flP_len, flV_nm, flV_ok, flV_pv, flP_map, drop_flP, drop_flV, putC_flV, eqV2, eqV3, bneT, bneF, decide_true, decide_false, frzL_vi, frzL_flV, eqV_slice, eqV_ptr, eqV_func, nilS, nilP, nilF, nmL_append, true_or, or_true, and_self, true_and, and_true, Option.some.injEq, reduceCtorEq, false_or, or_false, VV.p.injEq, PV.at.injEq, Value.int.injEq, sl1, vi, bl1, vb, nilV, pi, slP])
  rintro n ⟨g, i⟩ ⟨hn, hi, hg, he⟩
  simp only at hn hi hg he
  simp only [inV, PT.set, mkB]
  (repeat (first | refine VC.seq ?_ | refine VC.block ?_ | refine VC.kill ?_ | refine VC.skip ?_ | refine VC.exit ?_ | refine VC.regA ?_ | refine VC.condT ?_ | refine VC.condF ?_))
  have hlg : g.length = x.length := ((fillB_iff x g).1 hg).1
  by_cases h : i < w.length
  · have hwi := hw _ (List.getElem_mem h)
    have k1 := isJ_ok x false (a := w[i].1) (b := w[i].2) hx.2.1 (by omega) (by omega)
    rw [isS_open] at k1
    rw [pourR_drop _ _ _ _ h] at he
    simp only [ag2, jugP] at k1
    cases hR : isR x.length w[i].1 w[i].2 with
    | false =>
      rw [hR] at k1 he
      simp only [Bool.false_eq_true, if_false, Nat.zero_add] at k1 he
      rw [he]
      (repeat (first | refine VC.seq ?_ | refine VC.block ?_ | refine VC.kill ?_ | refine VC.skip ?_ | refine VC.exit ?_ | refine VC.regA ?_ | refine VC.condT ?_ | refine VC.condF ?_))
      (refine VC.regCA ?_; refine VO.moreA ?_; refine VO.call0A (no_orc _ (by decide)) k1 ?_; refine VO.endA ?_; (repeat (first | refine VC.seq ?_ | refine VC.block ?_ | refine VC.kill ?_ | refine VC.skip ?_ | refine VC.exit ?_ | refine VC.regA ?_ | refine VC.condT ?_ | refine VC.condF ?_)))
      have hP1 := P4 hg
      have hx4 : x.length ≤ 4 := hx.2.1
      have hble : Nat.ble x.length 4 = true := by rw [Nat.ble_eq]; exact hx.2.1
      have htk : List.take x.length ((pad4 g).map pi) = g.map pi := by rw [← List.map_take, pad4, List.take_append_of_le_length (by omega), ← hlg, List.take_length]
      have k3 := CloneI_ok g (by rw [hlg]; exact hx.1) (by rw [hlg]; have := hx.2.1; omega)
      apply VC.regC
      · (simp (config := {decide := false, maxSteps := 1000000}) (disch := omega) only [vev_call, putC_c0, putC_n0, putC_cs, ble0, List.getElem?_cons_zero, List.getElem?_cons_succ, runU, isCall, wantV, vev, evV, ofVal, ofAtom, atomB, cond_true, cond_false, PT.get, PT.set, PT.filt, PT.map, Option.getD_some, Option.getD_none, ret1V, ret1X, v_ld, v_ias, v_iad, v_fad, v_slsl, v_slarr, v_st, v_app, v_cpy, v_len, v_look, v_mset, elsV, partV, newV, free, atV, atI, atL, toVal, cellsV, okV, VSt.put, VSt.kill, VSt.alloc, VSt.frz, VSt.adopt, noref, norefB, deadB, deadV, nos, nm, nmL, nmB, nmE, Pa.eqb, Bool.not_false, Bool.not_true, Bool.and_true, Bool.true_and, Bool.false_and, Bool.and_false, bin, intOps, intBin, cvt, un, goInt, bndsV, bndV, Option.map_some, Option.map_none, List.map_cons, List.map_nil, Int.toNat_natCast, Nat.mul_one, Nat.zero_add, beq_true, beq_false, beq_self_eq_true, List.length_map, List.length_cons, List.length_nil, List.length_append, fillV, pEvV, repsV, List.append_nil, List.nil_append, if_pos, if_neg, reduceIte, List.getElem?_map, List.getElem?_drop, Nat.add_zero, List.getElem?_eq_getElem, Go.IntWalk.i64_in, wrap_u64, tmod_pos, eq_self, true_and, and_true, and_self, List.all_cons, List.all_nil, nmL_vi, flV_len, flP_len, flV_nm, flV_ok, flV_pv, flP_map, drop_flP, drop_flV, putC_flV, eqV2, eqV3, bneT, bneF, decide_true, decide_false, frzL_vi, frzL_flV, eqV_slice, eqV_ptr, eqV_func, nilS, nilP, nilF, nmL_append, okL_vi, toPVs_vi, toPVs, toPV, frzV, frzL, frzB, resVV, vi, vb, nilV, sl1, bl1, pi, foldV, max2, min2, max_eq, min_eq, Int.tdiv_eq_ediv_of_nonneg, Int.cast_ofNat_Int, Option.isSome_none, Option.isSome_some, Option.isNone_none, Option.isNone_some, and_false, false_and, sl2, sl1P, slP, min_cast, take_map_pi, map_pi, Nat.sub_zero, Nat.zero_mul, List.length_take, decide_eq_true, decide_eq_false, Bool.true_eq_false, Bool.false_eq_true, beqT, beqF, ibeq, ibne, List.take_zero, List.take_succ_cons, List.drop_zero, List.drop_succ_cons, List.drop_nil, List.take_nil, List.cons_append, Bool.not_true, Bool.not_false, jugC])
        rfl
      refine VO.frzA p11 (hb := rfl) (hc := toPVs_vi (pad4 g)) ?_
      refine VO.call0A (no_orc 63 (by decide)) k3 ?_ (hl := ?_)
      rotate_left
      · (simp (config := {decide := false, maxSteps := 1000000}) (disch := omega) only [vev_call, putC_c0, putC_n0, putC_cs, ble0, List.getElem?_cons_zero, List.getElem?_cons_succ, runU, isCall, wantV, vev, evV, ofVal, ofAtom, atomB, cond_true, cond_false, PT.get, PT.set, PT.filt, PT.map, Option.getD_some, Option.getD_none, ret1V, ret1X, v_ld, v_ias, v_iad, v_fad, v_slsl, v_slarr, v_st, v_app, v_cpy, v_len, v_look, v_mset, elsV, partV, newV, free, atV, atI, atL, toVal, cellsV, okV, VSt.put, VSt.kill, VSt.alloc, VSt.frz, VSt.adopt, noref, norefB, deadB, deadV, nos, nm, nmL, nmB, nmE, Pa.eqb, Bool.not_false, Bool.not_true, Bool.and_true, Bool.true_and, Bool.false_and, Bool.and_false, bin, intOps, intBin, cvt, un, goInt, bndsV, bndV, Option.map_some, Option.map_none, List.map_cons, List.map_nil, Int.toNat_natCast, Nat.mul_one, Nat.zero_add, beq_true, beq_false, beq_self_eq_true, List.length_map, List.length_cons, List.length_nil, List.length_append, fillV, pEvV, repsV, List.append_nil, List.nil_append, if_pos, if_neg, reduceIte, List.getElem?_map, List.getElem?_drop, Nat.add_zero, List.getElem?_eq_getElem, Go.IntWalk.i64_in, wrap_u64, tmod_pos, eq_self, true_and, and_true, and_self, List.all_cons, List.all_nil, nmL_vi, flV_len, flP_len, flV_nm, flV_ok, flV_pv, flP_map, drop_flP, drop_flV, putC_flV, eqV2, eqV3, bneT, bneF, decide_true, decide_false, frzL_vi, frzL_flV, eqV_slice, eqV_ptr, eqV_func, nilS, nilP, nilF, nmL_append, okL_vi, toPVs_vi, toPVs, toPV, frzV, frzL, frzB, resVV, vi, vb, nilV, sl1, bl1, pi, foldV, max2, min2, max_eq, min_eq, Int.tdiv_eq_ediv_of_nonneg, Int.cast_ofNat_Int, Option.isSome_none, Option.isSome_some, Option.isNone_none, Option.isNone_some, and_false, false_and, sl2, sl1P, slP, min_cast, take_map_pi, map_pi, Nat.sub_zero, Nat.zero_mul, List.length_take, decide_eq_true, decide_eq_false, Bool.true_eq_false, Bool.false_eq_true, beqT, beqF, ibeq, ibne, List.take_zero, List.take_succ_cons, List.drop_zero, List.drop_succ_cons, List.drop_nil, List.take_nil, List.cons_append, Bool.not_true, Bool.not_false, hP1, hble, htk, hlg])
      refine VO.endA ?_
      (repeat (first | refine VC.seq ?_ | refine VC.block ?_ | refine VC.kill ?_ | refine VC.skip ?_ | refine VC.exit ?_ | refine VC.regA ?_ | refine VC.condT ?_ | refine VC.condF ?_))
      exact VC.ret (Fin.of rfl rfl (by simp [mkB, PT.set, PT.Le]) rfl rfl (by simp [nmsB, nmB, nmL, nm, flV_nm, subs, nos, Pa.eqb, sl1, vi]))
    | true =>
      have k2 := doJ_ok x g false hx.2.1 (okJ_mem hx) hg hR
      rw [hR] at k1 he
      simp only [if_true] at k1 he
      have hb := isR_bd hR
      have hg' := fill_step x g _ _ hg hb.2.2 hb.1.1 hb.2.1.1
      have hP1 := P4 hg
      have hP2 := P4 hg'
      have ht4 : List.take 4 ((pad4 g).map vi) = (pad4 g).map vi := List.take_of_length_le (by simp [hP1])
      have hpc2 := putC_full ((pad4 g).map vi) ((pad4 (stepR x g w[i].1 w[i].2)).map vi) (by simp [hP1, hP2])
      simp only [ag2, jugP] at k2
      (repeat (first | refine VC.seq ?_ | refine VC.block ?_ | refine VC.kill ?_ | refine VC.skip ?_ | refine VC.exit ?_ | refine VC.regA ?_ | refine VC.condT ?_ | refine VC.condF ?_))
      (refine VC.regCA ?_; refine VO.moreA ?_; refine VO.call0A (no_orc _ (by decide)) k1 ?_; refine VO.endA ?_; (repeat (first | refine VC.seq ?_ | refine VC.block ?_ | refine VC.kill ?_ | refine VC.skip ?_ | refine VC.exit ?_ | refine VC.regA ?_ | refine VC.condT ?_ | refine VC.condF ?_)))
      apply VC.regC
      · (simp (config := {decide := false, maxSteps := 1000000}) (disch := omega) only [vev_call, putC_c0, putC_n0, putC_cs, ble0, List.getElem?_cons_zero, List.getElem?_cons_succ, runU, isCall, wantV, vev, evV, ofVal, ofAtom, atomB, cond_true, cond_false, PT.get, PT.set, PT.filt, PT.map, Option.getD_some, Option.getD_none, ret1V, ret1X, v_ld, v_ias, v_iad, v_fad, v_slsl, v_slarr, v_st, v_app, v_cpy, v_len, v_look, v_mset, elsV, partV, newV, free, atV, atI, atL, toVal, cellsV, okV, VSt.put, VSt.kill, VSt.alloc, VSt.frz, VSt.adopt, noref, norefB, deadB, deadV, nos, nm, nmL, nmB, nmE, Pa.eqb, Bool.not_false, Bool.not_true, Bool.and_true, Bool.true_and, Bool.false_and, Bool.and_false, bin, intOps, intBin, cvt, un, goInt, bndsV, bndV, Option.map_some, Option.map_none, List.map_cons, List.map_nil, Int.toNat_natCast, Nat.mul_one, Nat.zero_add, beq_true, beq_false, beq_self_eq_true, List.length_map, List.length_cons, List.length_nil, List.length_append, fillV, pEvV, repsV, List.append_nil, List.nil_append, if_pos, if_neg, reduceIte, List.getElem?_map, List.getElem?_drop, Nat.add_zero, List.getElem?_eq_getElem, Go.IntWalk.i64_in, wrap_u64, tmod_pos, eq_self, true_and, and_true, and_self, List.all_cons, List.all_nil, nmL_vi, flV_len, flP_len, flV_nm, flV_ok, flV_pv, flP_map, drop_flP, drop_flV, putC_flV, eqV2, eqV3, bneT, bneF, decide_true, decide_false, frzL_vi, frzL_flV, eqV_slice, eqV_ptr, eqV_func, nilS, nilP, nilF, nmL_append, okL_vi, toPVs_vi, toPVs, toPV, frzV, frzL, frzB, resVV, vi, vb, nilV, sl1, bl1, pi, foldV, max2, min2, max_eq, min_eq, Int.tdiv_eq_ediv_of_nonneg, Int.cast_ofNat_Int, Option.isSome_none, Option.isSome_some, Option.isNone_none, Option.isNone_some, and_false, false_and, sl2, sl1P, slP, min_cast, take_map_pi, map_pi, Nat.sub_zero, Nat.zero_mul, List.length_take, decide_eq_true, decide_eq_false, Bool.true_eq_false, Bool.false_eq_true, beqT, beqF, ibeq, ibne, List.take_zero, List.take_succ_cons, List.drop_zero, List.drop_succ_cons, List.drop_nil, List.take_nil, List.cons_append, Bool.not_true, Bool.not_false, hP1, ht4])
        rfl
      refine VO.call0A (no_orc 62 (by decide)) k2 ?_
      apply VO.uptoE
      · (simp (config := {decide := false, maxSteps := 1000000}) (disch := omega) only [vev_call, putC_c0, putC_n0, putC_cs, ble0, List.getElem?_cons_zero, List.getElem?_cons_succ, runU, isCall, wantV, vev, evV, ofVal, ofAtom, atomB, cond_true, cond_false, PT.get, PT.set, PT.filt, PT.map, Option.getD_some, Option.getD_none, ret1V, ret1X, v_ld, v_ias, v_iad, v_fad, v_slsl, v_slarr, v_st, v_app, v_cpy, v_len, v_look, v_mset, elsV, partV, newV, free, atV, atI, atL, toVal, cellsV, okV, VSt.put, VSt.kill, VSt.alloc, VSt.frz, VSt.adopt, noref, norefB, deadB, deadV, nos, nm, nmL, nmB, nmE, Pa.eqb, Bool.not_false, Bool.not_true, Bool.and_true, Bool.true_and, Bool.false_and, Bool.and_false, bin, intOps, intBin, cvt, un, goInt, bndsV, bndV, Option.map_some, Option.map_none, List.map_cons, List.map_nil, Int.toNat_natCast, Nat.mul_one, Nat.zero_add, beq_true, beq_false, beq_self_eq_true, List.length_map, List.length_cons, List.length_nil, List.length_append, fillV, pEvV, repsV, List.append_nil, List.nil_append, if_pos, if_neg, reduceIte, List.getElem?_map, List.getElem?_drop, Nat.add_zero, List.getElem?_eq_getElem, Go.IntWalk.i64_in, wrap_u64, tmod_pos, eq_self, true_and, and_true, and_self, List.all_cons, List.all_nil, nmL_vi, flV_len, flP_len, flV_nm, flV_ok, flV_pv, flP_map, drop_flP, drop_flV, putC_flV, eqV2, eqV3, bneT, bneF, decide_true, decide_false, frzL_vi, frzL_flV, eqV_slice, eqV_ptr, eqV_func, nilS, nilP, nilF, nmL_append, okL_vi, toPVs_vi, toPVs, toPV, frzV, frzL, frzB, resVV, vi, vb, nilV, sl1, bl1, pi, foldV, max2, min2, max_eq, min_eq, Int.tdiv_eq_ediv_of_nonneg, Int.cast_ofNat_Int, Option.isSome_none, Option.isSome_some, Option.isNone_none, Option.isNone_some, and_false, false_and, sl2, sl1P, slP, min_cast, take_map_pi, map_pi, Nat.sub_zero, Nat.zero_mul, List.length_take, decide_eq_true, decide_eq_false, Bool.true_eq_false, Bool.false_eq_true, beqT, beqF, ibeq, ibne, List.take_zero, List.take_succ_cons, List.drop_zero, List.drop_succ_cons, List.drop_nil, List.take_nil, List.cons_append, Bool.not_true, Bool.not_false, hP1, hP2, hpc2])
        rfl
      (repeat (first | refine VC.seq ?_ | refine VC.block ?_ | refine VC.kill ?_ | refine VC.skip ?_ | refine VC.exit ?_ | refine VC.regA ?_ | refine VC.condT ?_ | refine VC.condF ?_))
      refine ⟨_, (stepR x g w[i].1 w[i].2, i + 1), ?_, ⟨rfl, by simp only; omega, hg', by rw [he]; simp only [Nat.add_assoc, Nat.add_comm 1]⟩, ?_⟩
      · simp; omega
      · (apply G.weak; constructor <;> simp (config := {decide := true}) only [PT.Le, inV, mkB, PT.set, VSt.kill, VSt.adopt, VSt.alloc, PT.filt, PT.map, List.map_cons, List.map_nil, noref, norefB, deadB, deadV, nos, nm, nmL, nmB, nmE, Pa.eqb, cond_true, cond_false, Bool.not_true, Bool.not_false, Bool.and_true, Bool.true_and, nmL_vi, flV_len, flP_len, flV_nm, flV_ok, flV_pv, flP_map, drop_flP, drop_flV, putC_flV, eqV2, eqV3, bneT, bneF, decide_true, decide_false, frzL_vi, frzL_flV, eqV_slice, eqV_ptr, eqV_func, nilS, nilP, nilF, nmL_append, true_or, or_true, and_self, true_and, and_true, Option.some.injEq, reduceCtorEq, false_or, or_false, VV.p.injEq, PV.at.injEq, Value.int.injEq, sl1, vi, bl1, vb, nilV, pi, slP])
        (all_goals first | rfl | omega | exact ⟨rfl, by omega⟩)
  · have h : i = w.length := by omega
    subst h
    rw [List.drop_length] at he
    simp only [pourR, Nat.zero_add] at he
    rw [he]
    (repeat (first | refine VC.seq ?_ | refine VC.block ?_ | refine VC.kill ?_ | refine VC.skip ?_ | refine VC.exit ?_ | refine VC.regA ?_ | refine VC.condT ?_ | refine VC.condF ?_))
    have hP1 := P4 hg
    have hx4 : x.length ≤ 4 := hx.2.1
    have hble : Nat.ble x.length 4 = true := by rw [Nat.ble_eq]; exact hx.2.1
    have htk : List.take x.length ((pad4 g).map pi) = g.map pi := by rw [← List.map_take, pad4, List.take_append_of_le_length (by omega), ← hlg, List.take_length]
    have k3 := CloneI_ok g (by rw [hlg]; exact hx.1) (by rw [hlg]; have := hx.2.1; omega)
    apply VC.regC
    · (simp (config := {decide := false, maxSteps := 1000000}) (disch := omega) only [vev_call, putC_c0, putC_n0, putC_cs, ble0, List.getElem?_cons_zero, List.getElem?_cons_succ, runU, isCall, wantV, vev, evV, ofVal, ofAtom, atomB, cond_true, cond_false, PT.get, PT.set, PT.filt, PT.map, Option.getD_some, Option.getD_none, ret1V, ret1X, v_ld, v_ias, v_iad, v_fad, v_slsl, v_slarr, v_st, v_app, v_cpy, v_len, v_look, v_mset, elsV, partV, newV, free, atV, atI, atL, toVal, cellsV, okV, VSt.put, VSt.kill, VSt.alloc, VSt.frz, VSt.adopt, noref, norefB, deadB, deadV, nos, nm, nmL, nmB, nmE, Pa.eqb, Bool.not_false, Bool.not_true, Bool.and_true, Bool.true_and, Bool.false_and, Bool.and_false, bin, intOps, intBin, cvt, un, goInt, bndsV, bndV, Option.map_some, Option.map_none, List.map_cons, List.map_nil, Int.toNat_natCast, Nat.mul_one, Nat.zero_add, beq_true, beq_false, beq_self_eq_true, List.length_map, List.length_cons, List.length_nil, List.length_append, fillV, pEvV, repsV, List.append_nil, List.nil_append, if_pos, if_neg, reduceIte, List.getElem?_map, List.getElem?_drop, Nat.add_zero, List.getElem?_eq_getElem, Go.IntWalk.i64_in, wrap_u64, tmod_pos, eq_self, true_and, and_true, and_self, List.all_cons, List.all_nil, nmL_vi, flV_len, flP_len, flV_nm, flV_ok, flV_pv, flP_map, drop_flP, drop_flV, putC_flV, eqV2, eqV3, bneT, bneF, decide_true, decide_false, frzL_vi, frzL_flV, eqV_slice, eqV_ptr, eqV_func, nilS, nilP, nilF, nmL_append, okL_vi, toPVs_vi, toPVs, toPV, frzV, frzL, frzB, resVV, vi, vb, nilV, sl1, bl1, pi, foldV, max2, min2, max_eq, min_eq, Int.tdiv_eq_ediv_of_nonneg, Int.cast_ofNat_Int, Option.isSome_none, Option.isSome_some, Option.isNone_none, Option.isNone_some, and_false, false_and, sl2, sl1P, slP, min_cast, take_map_pi, map_pi, Nat.sub_zero, Nat.zero_mul, List.length_take, decide_eq_true, decide_eq_false, Bool.true_eq_false, Bool.false_eq_true, beqT, beqF, ibeq, ibne, List.take_zero, List.take_succ_cons, List.drop_zero, List.drop_succ_cons, List.drop_nil, List.take_nil, List.cons_append, Bool.not_true, Bool.not_false, jugC])
      rfl
    refine VO.frzA p11 (hb := rfl) (hc := toPVs_vi (pad4 g)) ?_
    refine VO.call0A (no_orc 63 (by decide)) k3 ?_ (hl := ?_)
    rotate_left
    · (simp (config := {decide := false, maxSteps := 1000000}) (disch := omega) only [vev_call, putC_c0, putC_n0, putC_cs, ble0, List.getElem?_cons_zero, List.getElem?_cons_succ, runU, isCall, wantV, vev, evV, ofVal, ofAtom, atomB, cond_true, cond_false, PT.get, PT.set, PT.filt, PT.map, Option.getD_some, Option.getD_none, ret1V, ret1X, v_ld, v_ias, v_iad, v_fad, v_slsl, v_slarr, v_st, v_app, v_cpy, v_len, v_look, v_mset, elsV, partV, newV, free, atV, atI, atL, toVal, cellsV, okV, VSt.put, VSt.kill, VSt.alloc, VSt.frz, VSt.adopt, noref, norefB, deadB, deadV, nos, nm, nmL, nmB, nmE, Pa.eqb, Bool.not_false, Bool.not_true, Bool.and_true, Bool.true_and, Bool.false_and, Bool.and_false, bin, intOps, intBin, cvt, un, goInt, bndsV, bndV, Option.map_some, Option.map_none, List.map_cons, List.map_nil, Int.toNat_natCast, Nat.mul_one, Nat.zero_add, beq_true, beq_false, beq_self_eq_true, List.length_map, List.length_cons, List.length_nil, List.length_append, fillV, pEvV, repsV, List.append_nil, List.nil_append, if_pos, if_neg, reduceIte, List.getElem?_map, List.getElem?_drop, Nat.add_zero, List.getElem?_eq_getElem, Go.IntWalk.i64_in, wrap_u64, tmod_pos, eq_self, true_and, and_true, and_self, List.all_cons, List.all_nil, nmL_vi, flV_len, flP_len, flV_nm, flV_ok, flV_pv, flP_map, drop_flP, drop_flV, putC_flV, eqV2, eqV3, bneT, bneF, decide_true, decide_false, frzL_vi, frzL_flV, eqV_slice, eqV_ptr, eqV_func, nilS, nilP, nilF, nmL_append, okL_vi, toPVs_vi, toPVs, toPV, frzV, frzL, frzB, resVV, vi, vb, nilV, sl1, bl1, pi, foldV, max2, min2, max_eq, min_eq, Int.tdiv_eq_ediv_of_nonneg, Int.cast_ofNat_Int, Option.isSome_none, Option.isSome_some, Option.isNone_none, Option.isNone_some, and_false, false_and, sl2, sl1P, slP, min_cast, take_map_pi, map_pi, Nat.sub_zero, Nat.zero_mul, List.length_take, decide_eq_true, decide_eq_false, Bool.true_eq_false, Bool.false_eq_true, beqT, beqF, ibeq, ibne, List.take_zero, List.take_succ_cons, List.drop_zero, List.drop_succ_cons, List.drop_nil, List.take_nil, List.cons_append, Bool.not_true, Bool.not_false, hP1, hble, htk, hlg])
    refine VO.endA ?_
    (repeat (first | refine VC.seq ?_ | refine VC.block ?_ | refine VC.kill ?_ | refine VC.skip ?_ | refine VC.exit ?_ | refine VC.regA ?_ | refine VC.condT ?_ | refine VC.condF ?_))
    exact VC.ret (Fin.of rfl rfl (by simp [mkB, PT.set, PT.Le]) rfl rfl (by simp [nmsB, nmB, nmL, nm, flV_nm, subs, nos, Pa.eqb, sl1, vi]))
end Go.Ab.Jug

namespace Go.Ab.Jug
set_option maxRecDepth 1000000
theorem awake_runs : (match run true cfg0 400 (.call 20 [] ⟨fun _ => none, .lf, 0, 0⟩) with
  | some (_, .nd (.bool true) _ _, _) => true
  | _ => false) = true := by decide +kernel
theorem awake_closed : ClosedAns cfg0 20 (.bool true) := by
  have h := awake_runs
  split at h
  · rename_i e l r h' he; exact ⟨400, e, l, r, h', he⟩
  · cases h
end Go.Ab.Jug

namespace Go.Ab.Jug
open Go.Ab.V
set_option maxRecDepth 100000
theorem tameJ_ok (l : List Int) (m : Nat) (hm : 1 ≤ m ∧ m ≤ 4) : okJ (tameJ l m) := by
  unfold tameJ
  split
  · rw [okJ_iff]; simp
  · rw [okJ_iff]
    refine ⟨fun x hx => ?_, ?_, ?_⟩
    · obtain ⟨y, _, rfl⟩ := List.mem_map.1 hx
      exact red12_bd y
    · rw [List.length_map]; omega
    · rw [List.length_map, List.length_take]; omega
theorem fillF_ok (x l : List Int) (hq : ∀ i ∈ x, 1 ≤ i ∧ i ≤ 12) : fillB x (fillF x l) = true := by
  rw [fillB_iff]
  refine ⟨by simp [fillF], fun i h h' => ?_⟩
  simp only [fillF, List.getElem_map, List.getElem_range, fillE]
  have hx := hq _ (List.getElem_mem h')
  rw [show x.getD i 0 = x[i] from by rw [List.getD_eq_getElem?_getD, List.getElem?_eq_getElem h', Option.getD_some]]
  split
  · exact ⟨Int.emod_nonneg _ (by omega), by have := Int.emod_lt_of_pos (l.getD i 0 % 18446744073709551616) (b := x[i] + 1) (by omega); omega⟩
  · omega
set_option maxHeartbeats 4000000 in
theorem steps_law (l m : List Int) (hl : l.length ≤ 9223372036854775807) (hm : m.length ≤ 9223372036854775807) : VCall cfg 3 [sl1 l, sl1 m] [] [] (vb true) [] := by
  have k1 := tame_ok l 4 (by decide) hl
  generalize hX : tameJ l 4 = x at k1
  have hx : okJ x := by rw [← hX]; exact tameJ_ok l 4 (by omega)
  have hq := okJ_mem hx
  have k2 := filled_ok x m ⟨hx.1, hx.2.1⟩ hq hm
  generalize hF : fillF x m = f at k2
  have hf : fillB x f = true := by rw [← hF]; exact fillF_ok x m hq
  have hlf : f.length = x.length := ((fillB_iff x f).1 hf).1
  have hv := ((fillB_iff x f).1 hf).2
  have k3 := fun c => Steps_ok x f c hx hf
  have k4 := fun c => StepsR_ok x f c ⟨hx.1, hx.2.1⟩ hlf hq hv
  have h25 := fun c => allR_len25 x f c hx.2.1
  (refine VCall.mk (fn := a3) rfl rfl rfl ?_; simp only [a3, inV, mkB, nmsL, PT.set])
  (repeat (first | refine VC.seq ?_ | refine VC.block ?_ | refine VC.kill ?_ | refine VC.skip ?_ | refine VC.exit ?_ | refine VC.regA ?_ | refine VC.condT ?_ | refine VC.condF ?_))
  (refine VC.regCA ?_; refine VO.moreA ?_; refine VO.call0A (no_orc _ (by decide)) k1 ?_; refine VO.endA ?_; (repeat (first | refine VC.seq ?_ | refine VC.block ?_ | refine VC.kill ?_ | refine VC.skip ?_ | refine VC.exit ?_ | refine VC.regA ?_ | refine VC.condT ?_ | refine VC.condF ?_)))
  (refine VC.regCA ?_; refine VO.moreA ?_; refine VO.call0A (no_orc _ (by decide)) k2 ?_; refine VO.endA ?_; (repeat (first | refine VC.seq ?_ | refine VC.block ?_ | refine VC.kill ?_ | refine VC.skip ?_ | refine VC.exit ?_ | refine VC.regA ?_ | refine VC.condT ?_ | refine VC.condF ?_)))
  refine VC.loopG (fun (k : Nat) => ⟨inV [p5, p6, p7] [sl1 x, sl1 f, vi k] .lf, .lf, [], none⟩) (fun n k => n = 2 - k ∧ k ≤ 2) (x := 0) ?_ ⟨rfl, by omega⟩ ?_
  · (apply G.weak; constructor <;> simp (config := {decide := true}) only [PT.Le, inV, mkB, PT.set, VSt.kill, VSt.adopt, VSt.alloc, PT.filt, PT.map, List.map_cons, List.map_nil, noref, norefB, deadB, deadV, nos, nm, nmL, nmB, nmE, Pa.eqb, cond_true, cond_false, Bool.not_true, Bool.not_false, Bool.and_true, Bool.true_and, nmL_vi, flV_len, flP_len, flV_nm, flV_ok, flV_pv, flP_map, drop_flP, drop_flV, putC_flV, eqV2, eqV3, bneT, bneF, decide_true, decide_false, frzL_vi, frzL_flV, eqV_slice, eqV_ptr, eqV_func, nilS, nilP, nilF, nmL_append, true_or, or_true, and_self, true_and, and_true, Option.some.injEq, reduceCtorEq, false_or, or_false, VV.p.injEq, PV.at.injEq, Value.int.injEq, sl1, vi, bl1, vb, nilV])
  rintro n k ⟨hn, hk⟩
  simp only [inV, PT.set]
  (repeat (first | refine VC.seq ?_ | refine VC.block ?_ | refine VC.kill ?_ | refine VC.skip ?_ | refine VC.exit ?_ | refine VC.regA ?_ | refine VC.condT ?_ | refine VC.condF ?_))
  refine VC.condA ?_ ?_ <;> intro h <;> (simp only [decide_eq_true_eq, decide_eq_false_iff_not, bne_iff_ne, ne_eq, bne_eq_false_iff_eq, beq_iff_eq, beq_eq_false_iff_ne, Bool.not_eq_true', Bool.not_eq_false', Bool.and_eq_true, Bool.or_eq_true, Int.natCast_inj] at h)
  · have h : k < 2 := by omega
    have k3 := k3 (decide ((k : Int) = 0))
    have k4 := k4 (decide ((k : Int) = 0))
    have h25 := h25 (decide ((k : Int) = 0))
    generalize allR x f (decide ((k : Int) = 0)) (x.length + 1) = L at k3 k4 h25
    (repeat (first | refine VC.seq ?_ | refine VC.block ?_ | refine VC.kill ?_ | refine VC.skip ?_ | refine VC.exit ?_ | refine VC.regA ?_ | refine VC.condT ?_ | refine VC.condF ?_))
    (refine VC.regCA ?_; refine VO.moreA ?_; refine VO.call0A (no_orc _ (by decide)) k3 ?_; refine VO.endA ?_; (repeat (first | refine VC.seq ?_ | refine VC.block ?_ | refine VC.kill ?_ | refine VC.skip ?_ | refine VC.exit ?_ | refine VC.regA ?_ | refine VC.condT ?_ | refine VC.condF ?_)))
    (refine VC.regCA ?_; refine VO.moreA ?_; refine VO.call0A (no_orc _ (by decide)) k4 ?_; refine VO.endA ?_; (repeat (first | refine VC.seq ?_ | refine VC.block ?_ | refine VC.kill ?_ | refine VC.skip ?_ | refine VC.exit ?_ | refine VC.regA ?_ | refine VC.condT ?_ | refine VC.condF ?_)))
    refine VC.loopG (fun (i : Nat) => ⟨inV [p5, p6, p7, p8, p10, p11] [sl1 x, sl1 f, vi k, slP L, slP L, vi i] .lf, .lf, [], none⟩) (fun n i => n = L.length - i ∧ i ≤ L.length) (x := 0) ?_ ⟨rfl, by omega⟩ ?_
    · (apply G.weak; constructor <;> simp (config := {decide := true}) only [PT.Le, inV, mkB, PT.set, VSt.kill, VSt.adopt, VSt.alloc, PT.filt, PT.map, List.map_cons, List.map_nil, noref, norefB, deadB, deadV, nos, nm, nmL, nmB, nmE, Pa.eqb, cond_true, cond_false, Bool.not_true, Bool.not_false, Bool.and_true, Bool.true_and, nmL_vi, flV_len, flP_len, flV_nm, flV_ok, flV_pv, flP_map, drop_flP, drop_flV, putC_flV, eqV2, eqV3, bneT, bneF, decide_true, decide_false, frzL_vi, frzL_flV, eqV_slice, eqV_ptr, eqV_func, nilS, nilP, nilF, nmL_append, true_or, or_true, and_self, true_and, and_true, Option.some.injEq, reduceCtorEq, false_or, or_false, VV.p.injEq, PV.at.injEq, Value.int.injEq, sl1, vi, bl1, vb, nilV, slP])
    rintro n i ⟨hn, hi⟩
    simp only [inV, PT.set]
    (repeat (first | refine VC.seq ?_ | refine VC.block ?_ | refine VC.kill ?_ | refine VC.skip ?_ | refine VC.exit ?_ | refine VC.regA ?_ | refine VC.condT ?_ | refine VC.condF ?_))
    refine VC.condA ?_ ?_ <;> intro h <;> (simp only [decide_eq_true_eq, decide_eq_false_iff_not, bne_iff_ne, ne_eq, bne_eq_false_iff_eq, beq_iff_eq, beq_eq_false_iff_ne, Bool.not_eq_true', Bool.not_eq_false', Bool.and_eq_true, Bool.or_eq_true, Int.natCast_inj] at h)
    · have h : i < L.length := by omega
      (repeat (first | refine VC.seq ?_ | refine VC.block ?_ | refine VC.kill ?_ | refine VC.skip ?_ | refine VC.exit ?_ | refine VC.regA ?_ | refine VC.condT ?_ | refine VC.condF ?_))
      refine ⟨_, i + 1, ?_, ⟨rfl, by omega⟩, ?_⟩
      · omega
      · (apply G.weak; constructor <;> simp (config := {decide := true}) only [PT.Le, inV, mkB, PT.set, VSt.kill, VSt.adopt, VSt.alloc, PT.filt, PT.map, List.map_cons, List.map_nil, noref, norefB, deadB, deadV, nos, nm, nmL, nmB, nmE, Pa.eqb, cond_true, cond_false, Bool.not_true, Bool.not_false, Bool.and_true, Bool.true_and, nmL_vi, flV_len, flP_len, flV_nm, flV_ok, flV_pv, flP_map, drop_flP, drop_flV, putC_flV, eqV2, eqV3, bneT, bneF, decide_true, decide_false, frzL_vi, frzL_flV, eqV_slice, eqV_ptr, eqV_func, nilS, nilP, nilF, nmL_append, true_or, or_true, and_self, true_and, and_true, Option.some.injEq, reduceCtorEq, false_or, or_false, VV.p.injEq, PV.at.injEq, Value.int.injEq, sl1, vi, bl1, vb, nilV, slP]); rfl
    · (repeat (first | refine VC.seq ?_ | refine VC.block ?_ | refine VC.kill ?_ | refine VC.skip ?_ | refine VC.exit ?_ | refine VC.regA ?_ | refine VC.condT ?_ | refine VC.condF ?_))
      refine ⟨_, k + 1, ?_, ⟨rfl, by omega⟩, ?_⟩
      · omega
      · (apply G.weak; constructor <;> simp (config := {decide := true}) only [PT.Le, inV, mkB, PT.set, VSt.kill, VSt.adopt, VSt.alloc, PT.filt, PT.map, List.map_cons, List.map_nil, noref, norefB, deadB, deadV, nos, nm, nmL, nmB, nmE, Pa.eqb, cond_true, cond_false, Bool.not_true, Bool.not_false, Bool.and_true, Bool.true_and, nmL_vi, flV_len, flP_len, flV_nm, flV_ok, flV_pv, flP_map, drop_flP, drop_flV, putC_flV, eqV2, eqV3, bneT, bneF, decide_true, decide_false, frzL_vi, frzL_flV, eqV_slice, eqV_ptr, eqV_func, nilS, nilP, nilF, nmL_append, true_or, or_true, and_self, true_and, and_true, Option.some.injEq, reduceCtorEq, false_or, or_false, VV.p.injEq, PV.at.injEq, Value.int.injEq, sl1, vi, bl1, vb, nilV, slP]); rfl
  · (repeat (first | refine VC.seq ?_ | refine VC.block ?_ | refine VC.kill ?_ | refine VC.skip ?_ | refine VC.exit ?_ | refine VC.regA ?_ | refine VC.condT ?_ | refine VC.condF ?_))
    refine VC.regCA ?_
    refine VO.moreA ?_
    refine VO.knownA (.bool true) rfl ?_
    refine VO.endA ?_
    (repeat (first | refine VC.seq ?_ | refine VC.block ?_ | refine VC.kill ?_ | refine VC.skip ?_ | refine VC.exit ?_ | refine VC.regA ?_ | refine VC.condT ?_ | refine VC.condF ?_))
    exact VC.ret (Fin.A rfl)
end Go.Ab.Jug

/- From the second evaluator to the model: a law's call; its arguments. -/
namespace Go.Ab.V
open Go.RowKit (Below)

def selfB : Value → Bool
  | .bool _ | .int .. | .string _ | .pointer none | .slice none _ _ | .map none | .nilFunc | .nilIface => true
  | .pointer (some a) => a.spot.isNone
  | .slice (some a) l c => a.spot.isNone && Nat.ble l c
  | _ => false
def clnS (v : Value) : Value := bif selfB v then v else undef
theorem clnS_vr (J : Inj) (v : Value) : VR J (clnS v) v := by
  unfold clnS
  cases hs : selfB v with
  | false => exact .undef v
  | true =>
    simp only [cond_true]
    unfold selfB at hs
    split at hs
    · exact .bool _
    · exact .int _ _
    · exact .string _
    · exact .ptrN
    · exact .slN _ _
    · exact .mapN
    · exact .nilFunc
    · exact .nilIface
    · rename_i a
      refine .ptr ?_
      unfold AddrR
      rw [Option.isNone_iff_eq_none.1 hs]
    · rename_i a l c
      rw [Bool.and_eq_true] at hs
      refine .sl l (Nat.le_of_ble_eq_true hs.2) ?_
      unfold SlR
      rw [Option.isNone_iff_eq_none.1 hs.1]
      exact ⟨rfl, .inr rfl⟩
    · cases hs
def cln (v : Value) : Value := match v with
  | .slice (some _) 0 0 => .slice (some ⟨0, 0, none⟩) 0 0
  | v => clnS v
theorem cln_vr (J : Inj) (v : Value) : VR J (cln v) v := by
  unfold cln
  split
  · exact .sl 0 (Nat.le_refl _) ⟨rfl, .inl rfl⟩
  · exact clnS_vr J v
/-- What lies there when a law is called: all of it is read alone. -/
def baseW (W : World) (b : Nat) : Option (List Value) := match W.heap[b]? with
  | some (.cells c _ _) => some (c.toList.map cln)
  | _ => none
def heapW (W : World) : AHeap := ⟨baseW W, .lf, 0, 0⟩
def J0 : Inj := fun _ => none
theorem heapW_get (W : World) (k : Nat) : (heapW W).get k = none := by simp [heapW, AHeap.get, Tr.get_lf]
theorem sim0 (OK : Nat → Code → ACode → Prop) (W : World) : Sim OK J0 (heapW W) W := by
  refine ⟨fun b c hc => ?_, fun k o h => (by rw [heapW_get] at h; cases h), fun k k' o o' pl pl' h => (by rw [heapW_get] at h; cases h), fun k o pl h => (by rw [heapW_get] at h; cases h)⟩
  have hc : baseW W b = some c := hc
  unfold baseW at hc
  split at hc
  · rename_i arr e fz hb
    cases hc
    refine ⟨arr, e, fz, hb, fun i v hv => ?_⟩
    rw [List.getElem?_map] at hv
    cases hi : arr.toList[i]? with
    | none => rw [hi] at hv; cases hv
    | some v' => rw [hi] at hv; cases hv; exact ⟨v', by rw [← Array.getElem?_toList]; exact hi, cln_vr _ v'⟩
  · cases hc
abbrev rd0 (W : World) : Addr → List Value → Prop := RdF (heapW W) (fun _ => False)
def ids0 : Pa → Option Nat := fun _ => none
theorem st0 (W : World) : St (cx (heapW W) ids0 (fun _ => False) .lf) ⟨.lf, .lf, [], none⟩ .lf (heapW W) ids0 (fun _ => False) :=
  ⟨fun k o h => (by rw [heapW_get] at h; cases h), rfl, fun _ hk => hk, fun _ _ _ => rfl, fun _ _ => Iff.rfl, fun _ h => h.elim, fun a b h => (by simp at h), fun a b k h => (by simp at h), fun a a' b b' k h => (by simp at h), fun p x h => (by simp at h), fun a h => (by simp at h), rfl⟩
/-- A law that answers true, called in any world. -/
theorem calls_true {P : Program} {C : Cfg} (hm : P.follows .mixedOrders = true) (ht : TabOK P C) (ho : OrcOK P C) {f : Nat} {args : List VV} (hc : VCall C f args [] [] (vb true) []) {W : World} {vals : List Value} {vals' : Array Value}
    (ha : All2 (Vr (rd0 W) ids0) vals args) (hl : LR J0 vals vals'.toList) : Calls P f vals' W fun e W' => e = .returned (.bool true) ∧ Below W.heap.size W W' := by
  obtain ⟨v, h', ⟨n, e, l, r, hr⟩, ids', F', _, rv, _⟩ := hc (heapW W) ids0 (fun _ => False) vals (st0 W) ha
  have hv : v = .bool true := (at_inv rv).1
  subst hv
  have so := run_sound (b := false) hm ht ho n
  obtain ⟨_, h2⟩ := so.call hr (sim0 _ W) hl (fun k _ => rfl)
  rw [callsIn_wide] at h2
  refine h2.mono ?_
  rintro e w' ⟨v', J', rfl, rv, nx⟩
  have : v' = .bool true := by cases rv; rfl
  subst this
  exact ⟨rfl, nx.os, nx.tape, nx.output, nx.size, fun k hk => nx.keep k hk (fun ⟨m, o, pl, h1, _⟩ => by rw [heapW_get] at h1; cases h1)⟩

/-- A row of ints in memory. -/
def IsRow (k : IntKind) (w : World) (a : Option Addr) (len cap : Nat) (zs : List Int) : Prop :=
  (a = none ∧ len = 0 ∧ cap = 0 ∧ zs = []) ∨
  ∃ x, a = some x ∧ len ≤ cap ∧ cap ≤ maxLen ∧ zs.length = cap ∧ (∀ i, i < zs.length → w.cell? (x.add i) = some (.int k (zs.getD i 0))) ∧ ∀ n ∈ zs, (Lit.int k n).wf = true
theorem cell_base {W : World} {x : Addr} {v : Value} (h : W.cell? x = some v) : x.spot = none ∧ ∃ row, baseW W x.block = some row ∧ row[x.off]? = some (cln v) := by
  unfold World.cell? at h
  split at h
  · rename_i c e fz hb
    split at h
    · cases h
    · rename_i hs
      refine ⟨by cases hx : x.spot with
        | none => rfl
        | some t => rw [hx] at hs; simp at hs, c.toList.map cln, by simp only [baseW, hb], ?_⟩
      rw [List.getElem?_map, Array.getElem?_toList, h]; rfl
  · cases h
theorem add_zero (x : Addr) : x.add 0 = x := by unfold Addr.add; rw [if_pos rfl]
theorem add_off {x : Addr} (h : x.spot = none) (i : Nat) : x.add i = { x with off := x.off + i } := by
  obtain ⟨b, o, s⟩ := x
  simp only at h
  subst h
  unfold Addr.add
  split
  · rename_i e; subst e; rfl
  · rfl
/-- An argument that is a slice of ints. -/
theorem arg_ints {W : World} {a : Option Addr} {len cap : Nat} {zs : List Int} (h : IsRow .i64 W a len cap zs) :
    ∃ av, VR J0 av (.slice a len cap) ∧ Vr (rd0 W) ids0 av (sl1 (zs.take len)) ∧ (zs.take len).length ≤ 9223372036854775807 := by
  rcases h with ⟨rfl, rfl, rfl, rfl⟩ | ⟨x, rfl, hlc, hcm, hz, hcell, _⟩
  · exact ⟨.slice none 0 0, .slN 0 0, .p .nil, by simp⟩
  · have hml : maxLen = 9223372036854775807 := rfl
    have hlen : (zs.take len).length = len := by rw [List.length_take]; omega
    refine ⟨if cap = 0 then .slice (some ⟨0, 0, none⟩) 0 0 else .slice (some x) len cap, ?_, ?_, by omega⟩
    · split
      · rename_i h0
        have : len = 0 := by omega
        subst h0; subst this
        exact .sl 0 (Nat.le_refl _) ⟨rfl, .inl rfl⟩
      · rename_i h0
        obtain ⟨hs, _⟩ := cell_base (hcell 0 (by omega))
        rw [add_zero] at hs
        refine .sl len hlc ?_
        unfold SlR
        rw [hs]
        exact ⟨rfl, .inr rfl⟩
    · split
      · rename_i h0
        have : len = 0 := by omega
        subst this
        simp only [sl1, List.take_zero, List.length_nil, List.map_nil]
        exact .p (.sl0 trivial)
      · rename_i h0
        obtain ⟨hs, row, hrow, _⟩ := cell_base (hcell 0 (by omega))
        rw [add_zero] at hs
        rw [add_zero] at hrow
        have hget : ∀ i, i < zs.length → row[x.off + i]? = some (.int .i64 (zs.getD i 0)) := by
          intro i hi
          obtain ⟨_, row', hrow', hr'⟩ := cell_base (hcell i hi)
          rw [add_off hs] at hrow' hr'
          simp only at hrow' hr'
          rw [hrow] at hrow'; cases hrow'
          exact hr'
        rw [sl1, hlen]
        refine .p (.sl (row := row) ?_ hlc ?_ ?_ ?_)
        · unfold tgOk; rw [hs]; trivial
        · show RdF _ _ _ _
          unfold RdF; rw [hs]; exact hrow
        · rw [List.length_map, hlen]
          rcases Nat.eq_zero_or_pos len with h | h
          · have := (List.getElem?_eq_some_iff.1 (hget 0 (by omega))).1; omega
          · have := (List.getElem?_eq_some_iff.1 (hget (len - 1) (by omega))).1; omega
        · intro i y z hy hzz
          rw [List.getElem?_map] at hzz
          cases hi : (zs.take len)[i]? with
          | none => rw [hi] at hzz; cases hzz
          | some q =>
            rw [hi] at hzz; cases hzz
            have hlt := (List.getElem?_eq_some_iff.1 hi).1
            rw [hlen] at hlt
            rw [hget i (by omega)] at hy
            cases hy
            rw [List.getElem?_take, if_pos hlt] at hi
            rw [List.getD_eq_getElem?_getD, hi]
            exact .at rfl
end Go.Ab.V

/- Arguments of any kinds: what lies in memory when a law is called, as pure values. -/
namespace Go.Ab.V
/-- The cells of a type, laid out. -/
inductive Lf where
  | int (k : IntKind)
  | bool
  | str
  | sl (e : List Lf)
def repL (l : List Lf) : Nat → List Lf
  | 0 => []
  | n + 1 => l ++ repL l n
mutual
inductive Leaves (P : Program) : TypeId → List Lf → Prop
  | int {t : TypeId} {k : IntKind} : P.underlying t = some (.int k) → Leaves P t [.int k]
  | bool {t : TypeId} : P.underlying t = some .bool → Leaves P t [.bool]
  | str {t : TypeId} : P.underlying t = some .string → Leaves P t [.str]
  | sl {t e : TypeId} {l : List Lf} : P.underlying t = some (.slice e) → Leaves P e l → P.cellsOf e = l.length → l ≠ [] → Leaves P t [.sl l]
  | arr {t e : TypeId} {n : Nat} {l : List Lf} : P.underlying t = some (.array n e) → Leaves P e l → P.cellsOf e = l.length → P.cellsOf t = n * l.length → Leaves P t (repL l n)
  | st {t : TypeId} {fs : Array Field} {l : List Lf} : P.underlying t = some (.struct fs) → LeavesF P fs.toList 0 l → P.cellsOf t = l.length → Leaves P t l
inductive LeavesF (P : Program) : List Field → Nat → List Lf → Prop
  | nil {o : Nat} : LeavesF P [] o []
  | cons {f : Field} {fs : List Field} {o : Nat} {l l' : List Lf} : f.offset = o → Leaves P f.type l → P.cellsOf f.type = l.length → LeavesF P fs (o + l.length) l' → LeavesF P (f :: fs) o (l ++ l')
end
/-- Data of these kinds. -/
inductive Dt where
  | int (k : IntKind) (n : Int)
  | bool (b : Bool)
  | str (s : ByteArray)
  | sl (u : Nat) (rows : List (List Dt))
mutual
def encD : Dt → PV
  | .int k n => .at (.int k n)
  | .bool b => .at (.bool b)
  | .str s => .at (.string s)
  | .sl u rows => .sl u rows.length (encR rows)
def encL : List Dt → List PV
  | [] => []
  | d :: r => encD d :: encL r
def encR : List (List Dt) → List PV
  | [] => []
  | d :: r => encL d ++ encR r
end
theorem encL_map : ∀ l : List Dt, encL l = l.map encD
  | [] => rfl
  | d :: r => by rw [encL, List.map_cons, encL_map r]
theorem encL_len (l : List Dt) : (encL l).length = l.length := by rw [encL_map, List.length_map]
inductive WT : List Lf → List Dt → Prop
  | nil : WT [] []
  | int {k : IntKind} {n : Int} {l : List Lf} {r : List Dt} : (Lit.int k n).wf = true → WT l r → WT (.int k :: l) (.int k n :: r)
  | bool {b : Bool} {l : List Lf} {r : List Dt} : WT l r → WT (.bool :: l) (.bool b :: r)
  | str {s : ByteArray} {l : List Lf} {r : List Dt} : s.size ≤ maxLen → WT l r → WT (.str :: l) (.str s :: r)
  | sl {e : List Lf} {rows : List (List Dt)} {l : List Lf} {r : List Dt} : rows.length ≤ maxLen → (∀ x ∈ rows, WT e x) → WT l r → WT (.sl e :: l) (.sl e.length rows :: r)
theorem WT.len : ∀ {l : List Lf} {r : List Dt}, WT l r → l.length = r.length
  | _, _, .nil => rfl
  | _, _, .int _ h => by simp [h.len]
  | _, _, .bool h => by simp [h.len]
  | _, _, .str _ h => by simp [h.len]
  | _, _, .sl _ _ h => by simp [h.len]
theorem WT.append : ∀ {l l' : List Lf} {r r' : List Dt}, WT l r → WT l' r' → WT (l ++ l') (r ++ r')
  | _, _, _, _, .nil, h' => h'
  | _, _, _, _, .int w h, h' => .int w (h.append h')
  | _, _, _, _, .bool h, h' => .bool (h.append h')
  | _, _, _, _, .str w h, h' => .str w (h.append h')
  | _, _, _, _, .sl a b h, h' => .sl a b (h.append h')
theorem encR_len {e : List Lf} : ∀ {rows : List (List Dt)}, (∀ x ∈ rows, WT e x) → (encR rows).length = rows.length * e.length
  | [], _ => by simp [encR]
  | d :: r, h => by
    rw [encR, List.length_append, encL_len, ← (h d (by simp)).len, encR_len (fun x hx => h x (List.mem_cons_of_mem _ hx)), List.length_cons, Nat.succ_mul, Nat.add_comm]
theorem encR_get {e : List Lf} : ∀ {rows : List (List Dt)}, (∀ x ∈ rows, WT e x) → ∀ (i k : Nat) (hi : i < rows.length), k < e.length → (encR rows)[i * e.length + k]? = (encL rows[i])[k]?
  | [], _, i, k, hi, _ => absurd hi (Nat.not_lt_zero i)
  | d :: r, h, 0, k, _, hk => by
    rw [encR, Nat.zero_mul, Nat.zero_add, List.getElem?_append_left (by rw [encL_len, ← (h d (by simp)).len]; exact hk)]; rfl
  | d :: r, h, i + 1, k, hi, hk => by
    have hd := (h d (by simp)).len
    rw [encR, List.getElem?_append_right (by rw [encL_len, ← hd, Nat.succ_mul]; omega), encL_len, ← hd, show (i + 1) * e.length + k - e.length = i * e.length + k from by rw [Nat.succ_mul]; omega,
      encR_get (fun x hx => h x (List.mem_cons_of_mem _ hx)) i k (by simpa using hi) hk]; rfl
theorem choose_rows {p : Nat → List Dt → Prop} : ∀ n, (∀ i, i < n → ∃ d, p i d) → ∃ rows : List (List Dt), rows.length = n ∧ ∀ i (h : i < rows.length), p i rows[i]
  | 0, _ => ⟨[], rfl, fun i h => absurd h (Nat.not_lt_zero i)⟩
  | n + 1, hp => by
    obtain ⟨rows, hl, hr⟩ := choose_rows n fun i h => hp i (by omega)
    obtain ⟨d, hd⟩ := hp n (by omega)
    refine ⟨rows ++ [d], by simp [hl], fun i h => ?_⟩
    by_cases hi : i < rows.length
    · rw [List.getElem_append_left hi]; exact hr i hi
    · have : i = n := by simp [hl] at h; omega
      subst this
      rw [List.getElem_append_right (by omega)]
      simpa [hl] using hd
/-- What cells hold. -/
def OpenR (W : World) (lf : List Lf) (cs : List Value) : Prop := ∃ ds, WT lf ds ∧ All2 (fun c d => Rp (rd0 W) (cln c) (encD d)) cs ds
theorem OpenR.append {W : World} {l l' : List Lf} {cs cs' : List Value} : OpenR W l cs → OpenR W l' cs' → OpenR W (l ++ l') (cs ++ cs')
  | ⟨ds, h1, h2⟩, ⟨ds', h1', h2'⟩ => ⟨ds ++ ds', h1.append h1', h2.append h2'⟩
section
variable {H : Type} {enc : TypeId × Value → H} {P : Program} {W : World} {base : Nat} {held : Bool}
theorem open_rep {l : List Lf} {cs : List Value} : ∀ (n : Nat), cs.length = n * l.length → (∀ i, i < n → OpenR W l ((cs.drop (i * l.length)).take l.length)) → OpenR W (repL l n) cs
  | 0, hl, _ => by
    have : cs = [] := List.eq_nil_of_length_eq_zero (by omega)
    subst this; exact ⟨[], .nil, .nil⟩
  | n + 1, hl, h => by
    have h0 := h 0 (by omega)
    rw [Nat.zero_mul, List.drop_zero] at h0
    have hr := open_rep (l := l) (cs := cs.drop l.length) n (by rw [List.length_drop, hl, Nat.succ_mul]; omega) (fun i hi => by
      have := h (i + 1) (by omega)
      rw [List.drop_drop, show l.length + i * l.length = (i + 1) * l.length from by rw [Nat.succ_mul]; omega]
      exact this)
    have := h0.append hr
    rw [List.take_append_drop] at this
    exact this
theorem open_sl {l : List Lf} {a : Addr} {len cap : Nat} {e : TypeId} (hn : P.cellsOf e = l.length) (hne : l ≠ []) (hlc : len ≤ cap) (hcm : cap ≤ maxLen)
    (hel : ∀ i, i < cap → ∃ ci, W.cells? base (a.add (i * P.cellsOf e)) (P.cellsOf e) = some ci ∧ OpenR W l ci) : OpenR W [.sl l] [.slice (some a) len cap] := by
  have hpos : 0 < l.length := List.length_pos_iff.2 hne
  rw [hn] at hel
  have cell : ∀ i k, i < cap → k < l.length → ∃ v, W.cell? ((a.add (i * l.length)).add k) = some v := fun i k hi hk => by
    obtain ⟨ci, h1, _⟩ := hel i hi
    obtain ⟨_, h3, h4⟩ := World.cells?_some h1
    exact ⟨ci[k]'(by omega), by rw [h4 k hk, List.getElem?_eq_getElem]⟩
  by_cases h0 : cap = 0
  · have : len = 0 := by omega
    subst h0; subst this
    refine ⟨[.sl l.length []], .sl (by simp) (fun x hx => by simp at hx) .nil, .cons ?_ .nil⟩
    rw [encD, encR, List.length_nil]
    exact .sl0 trivial
  have hs0 : (a.add (0 * l.length)).add 0 = a := by rw [Nat.zero_mul, add_zero, add_zero]
  obtain ⟨v0, hv0⟩ := cell 0 0 (by omega) hpos
  rw [hs0] at hv0
  obtain ⟨hs, row, hrow, _⟩ := cell_base hv0
  have hadd : ∀ i k, (a.add (i * l.length)).add k = { a with off := a.off + i * l.length + k } := fun i k => by
    rw [add_off hs, add_off (x := { a with off := a.off + i * l.length }) hs]
  have hcell : ∀ i, i < cap → ∀ ci, W.cells? base (a.add (i * l.length)) l.length = some ci → ∀ k, k < l.length → ∃ v, ci[k]? = some v ∧ row[a.off + i * l.length + k]? = some (cln v) := fun i hi ci hci k hk => by
    obtain ⟨_, h3, h4⟩ := World.cells?_some hci
    have hck : ci[k]? = some (ci[k]'(by omega)) := List.getElem?_eq_getElem _
    have h5 := h4 k hk
    rw [hadd, hck] at h5
    obtain ⟨_, row', hr1, hr2⟩ := cell_base h5
    have hr1 : baseW W a.block = some row' := hr1
    rw [hrow] at hr1; cases hr1
    exact ⟨_, hck, hr2⟩
  obtain ⟨rows, hrl, hrw⟩ := choose_rows (p := fun i d => WT l d ∧ ∀ k, k < l.length → ∀ y x, row[a.off + i * l.length + k]? = some y → (encL d)[k]? = some x → Rp (rd0 W) y x) len (fun i hi => by
    obtain ⟨ci, h1, ds, hw, ha⟩ := hel i (by omega)
    refine ⟨ds, hw, fun k hk y x hy hx => ?_⟩
    obtain ⟨v, hv1, hv2⟩ := hcell i (by omega) ci h1 k hk
    rw [hv2] at hy; cases hy
    rw [encL_map, List.getElem?_map] at hx
    cases hd : ds[k]? with
    | none => rw [hd] at hx; cases hx
    | some d => rw [hd] at hx; cases hx; exact ha.2 k _ _ hv1 hd)
  have hwt : ∀ x ∈ rows, WT l x := fun x hx => by
    obtain ⟨i, hi, rfl⟩ := List.mem_iff_getElem.1 hx
    exact (hrw i hi).1
  refine ⟨[.sl l.length rows], .sl (by omega) hwt .nil, .cons ?_ .nil⟩
  have hcln : cln (.slice (some a) len cap) = .slice (some a) len cap := by
    have : selfB (.slice (some a) len cap) = true := by
      show (a.spot.isNone && Nat.ble len cap) = true
      rw [hs]; simp [hlc]
    unfold cln
    split
    · rename_i h; cases h; exact absurd rfl h0
    · unfold clnS; rw [this]; rfl
  rw [hcln, encD]
  have hlenR := encR_len hwt
  rw [hrl]
  rw [hrl] at hlenR
  refine .sl (row := row) ?_ hlc ?_ ?_ ?_
  · unfold tgOk; rw [hs]; trivial
  · show RdF _ _ _ _
    unfold RdF; rw [hs]; exact hrow
  · rw [hlenR]
    obtain ⟨ci, h1, _⟩ := hel (cap - 1) (by omega)
    obtain ⟨v, _, hv2⟩ := hcell (cap - 1) (by omega) ci h1 (l.length - 1) (by omega)
    have h6 := (List.getElem?_eq_some_iff.1 hv2).1
    have h7 : len * l.length ≤ cap * l.length := Nat.mul_le_mul_right _ hlc
    have h8 : (cap - 1) * l.length + l.length = cap * l.length := by rw [← Nat.succ_mul]; congr 1; omega
    omega
  · intro idx y x hy hx
    have hlt : idx < len * l.length := by rw [← hlenR]; exact (List.getElem?_eq_some_iff.1 hx).1
    have hi : idx / l.length < len := Nat.div_lt_of_lt_mul (by rw [Nat.mul_comm]; exact hlt)
    have hk := Nat.mod_lt idx hpos
    have hidx : idx = idx / l.length * l.length + idx % l.length := by rw [Nat.mul_comm]; exact (Nat.div_add_mod idx l.length).symm
    rw [hidx] at hx hy
    rw [encR_get hwt _ _ (by omega) hk] at hx
    exact (hrw _ (by omega)).2 _ hk y x (by rw [Nat.add_assoc]; exact hy) hx
theorem trod_arr {t e : TypeId} {n fuel : Nat} {cs : List Value} {x : DataW H × List MemPlace} (ht : P.underlying t = some (.array n e)) (h : DataW.trod enc P W base (fun _ => true) held fuel t cs = some x) :
    ∃ (m : Nat) (xs : List (DataW H × List MemPlace)), cs.length = P.cellsOf t ∧ (List.range n).mapM (fun i => DataW.trod enc P W base (fun _ => true) held m e ((cs.drop (i * P.cellsOf e)).take (P.cellsOf e))) = some xs := by
  cases fuel with
  | zero => simp [DataW.trod] at h
  | succ m =>
    unfold DataW.trod at h
    rw [ht] at h
    split at h <;> simp_all
    obtain ⟨hl, xs, hp, _⟩ := h
    exact ⟨m, xs, hp⟩
theorem trod_str {t : TypeId} {fuel : Nat} {cs : List Value} {x : DataW H × List MemPlace} (ht : P.underlying t = some .string) (h : DataW.trod enc P W base (fun _ => true) held fuel t cs = some x) :
    ∃ s : ByteArray, cs = [.string s] ∧ s.size ≤ maxLen := by
  cases fuel with
  | zero => simp [DataW.trod] at h
  | succ m =>
    unfold DataW.trod at h
    rw [ht] at h
    split at h <;> simp_all
theorem trod_bool {t : TypeId} {fuel : Nat} {cs : List Value} {x : DataW H × List MemPlace} (ht : P.underlying t = some .bool) (h : DataW.trod enc P W base (fun _ => true) held fuel t cs = some x) :
    ∃ b : Bool, cs = [.bool b] := by
  cases fuel with
  | zero => simp [DataW.trod] at h
  | succ m =>
    unfold DataW.trod at h
    rw [ht] at h
    split at h <;> simp_all
theorem open_all {t : TypeId} {lf : List Lf} (L : Leaves P t lf) : ∀ {fuel : Nat} {cs : List Value} {x : DataW H × List MemPlace}, DataW.trod enc P W base (fun _ => true) held fuel t cs = some x → OpenR W lf cs := by
  induction L using Leaves.rec (motive_2 := fun fs o l _ => ∀ {n : Nat} {cs : List Value}, (∀ f ∈ fs, ∃ y : DataW H × List MemPlace, DataW.trod enc P W base (fun _ => true) held n f.type ((cs.drop f.offset).take (P.cellsOf f.type)) = some y) → cs.length = o + l.length → OpenR W l (cs.drop o)) with
  | int ht =>
    intro fuel cs x h
    obtain ⟨m, rfl, _, hw⟩ := DataW.trod_int ht h
    exact ⟨[.int _ m], .int hw .nil, .cons (.at rfl) .nil⟩
  | bool ht =>
    intro fuel cs x h
    obtain ⟨b, rfl⟩ := trod_bool ht h
    exact ⟨[.bool b], .bool .nil, .cons (.at rfl) .nil⟩
  | str ht =>
    intro fuel cs x h
    obtain ⟨b, rfl, hb⟩ := trod_str ht h
    exact ⟨[.str b], .str hb .nil, .cons (.at rfl) .nil⟩
  | sl ht _ hn hne ih =>
    intro fuel cs x h
    rename_i t e l _
    rcases DataW.trod_slice ht h with ⟨rfl, _⟩ | ⟨a, len, cap, elems, rest, n, _, rfl, _, hb, hl, hm, hlen, hel, hsp, _⟩
    · exact ⟨[.sl l.length []], .sl (by simp) (fun x hx => by simp at hx) .nil, .cons (by rw [encD, encR]; exact .nil) .nil⟩
    · obtain ⟨hrl, hr⟩ := hsp rfl
      refine open_sl (base := base) hn hne hl hm fun i hi => ?_
      have : ∃ y, (W.cells? base (a.add (i * P.cellsOf e)) (P.cellsOf e)).bind (DataW.trod enc P W base (fun _ => true) held n e) = some y := by
        by_cases hi' : i < len
        · exact ⟨elems[i]'(by omega), by rw [hel i hi', List.getElem?_eq_getElem]⟩
        · have := hr (i - len) (by omega)
          rw [show len + (i - len) = i by omega] at this
          exact ⟨rest[i - len]'(by omega), by rw [this, List.getElem?_eq_getElem]⟩
      obtain ⟨y, hy⟩ := this
      rw [Option.bind_eq_some_iff] at hy
      obtain ⟨ci, h1, h2⟩ := hy
      exact ⟨ci, h1, ih h2⟩
  | arr ht _ hn hc ih =>
    intro fuel cs x h
    rename_i t e n l _
    obtain ⟨m, xs, hl, hp⟩ := trod_arr ht h
    rw [hc] at hl
    rw [hn] at hp
    refine open_rep n hl fun i hi => ?_
    have := mapM_some_get hp i i (by simp [hi])
    exact ih (this.trans (List.getElem?_eq_getElem (by have := mapM_some_length hp; simp at this; omega)))
  | st ht _ hc ih =>
    intro fuel cs x h
    obtain ⟨xs, n, _, _, hl, hlen, hf⟩ := DataW.trod_struct ht h
    have := ih (n := n) (cs := cs) (fun f hf' => by
      obtain ⟨i, hi, he⟩ := List.mem_iff_getElem.1 hf'
      have h1 := hf i f (by rw [← Array.getElem?_toList, List.getElem?_eq_getElem hi, he])
      exact ⟨xs[i]'(by rw [hlen]; simpa using hi), by rw [h1, List.getElem?_eq_getElem]⟩) (by rw [hl, hc, Nat.zero_add])
    simpa using this
  | nil => 
    rename_i hl
    refine ⟨[], .nil, ?_⟩
    rw [List.drop_of_length_le (by simp at hl; omega)]; exact .nil
  | cons ho _ hc _ ih1 ih2 =>
    rename_i f fs o l l' _ _ n cs hf hl
    obtain ⟨y, hy⟩ := hf f (by simp)
    have h1 := ih1 hy
    have h2 := ih2 (n := n) (cs := cs) (fun g hg => hf g (List.mem_cons_of_mem _ hg)) (by rw [hl, List.length_append]; omega)
    have := h1.append h2
    rw [ho, hc, ← List.drop_drop, List.take_append_drop] at this
    exact this
end
theorem arg_sl {W : World} {l : List Lf} {v : Value} (h : OpenR W [.sl l] [v]) : ∃ rows : List (List Dt), (∀ x ∈ rows, WT l x) ∧ rows.length ≤ 9223372036854775807 ∧ VR J0 (cln v) v ∧ Vr (rd0 W) ids0 (cln v) (.p (.sl l.length rows.length (encR rows))) := by
  obtain ⟨ds, hw, ha⟩ := h
  cases hw with
  | sl h1 h2 h3 =>
    rename_i rows r
    refine ⟨rows, h2, h1, cln_vr _ _, ?_⟩
    have := ha.head
    rw [encD] at this
    exact .p this
theorem arg_agg {W : World} {lf : List Lf} {cs : Array Value} (h : OpenR W lf cs.toList) : ∃ ds : List Dt, WT lf ds ∧ VR J0 (.agg (cs.toList.map cln).toArray) (.agg cs) ∧ Vr (rd0 W) ids0 (.agg (cs.toList.map cln).toArray) (.agg (ds.map fun d => .p (encD d))) := by
  obtain ⟨ds, hw, ha⟩ := h
  refine ⟨ds, hw, ?_, .agg (by rw [List.length_map, List.length_map]; exact ha.1) fun i x y hx hy => ?_⟩
  · have := VR.agg (J := J0) (xs := cs.toList.map cln) (ys := cs.toList) (by simp) (fun i x y hx hy => by
      rw [List.getElem?_map, hy] at hx; cases hx; exact cln_vr _ _)
    simpa using this
  · rw [List.getElem?_map] at hx hy
    cases hc : cs.toList[i]? with
    | none => rw [hc] at hx; cases hx
    | some c =>
      cases hd : ds[i]? with
      | none => rw [hd] at hy; cases hy
      | some d => rw [hc] at hx; rw [hd] at hy; cases hx; cases hy; exact .p (ha.2 i c d hc hd)
theorem wf_i64 {n : Int} (h : (Lit.int .i64 n).wf = true) : -9223372036854775808 ≤ n ∧ n ≤ 9223372036854775807 := by
  simp [Lit.wf, IntKind.min, IntKind.max, IntKind.signed, IntKind.bits] at h
  omega
def i64P (p : Int × Int) : Prop := (-9223372036854775808 ≤ p.1 ∧ p.1 ≤ 9223372036854775807) ∧ -9223372036854775808 ≤ p.2 ∧ p.2 ≤ 9223372036854775807
def i64B (n : Int) : Prop := -9223372036854775808 ≤ n ∧ n ≤ 9223372036854775807
theorem rows_ints : ∀ {rows : List (List Dt)}, (∀ x ∈ rows, WT [.int .i64] x) → ∃ l : List Int, l.length = rows.length ∧ encR rows = l.map pi ∧ ∀ p ∈ l, i64B p
  | [], _ => ⟨[], rfl, rfl, by simp⟩
  | d :: r, h => by
    obtain ⟨l, h1, h2, h3⟩ := rows_ints fun x hx => h x (List.mem_cons_of_mem _ hx)
    have hd := h d (by simp)
    cases hd with
    | int w1 hd =>
      rename_i n r1
      cases hd with
      | nil => exact ⟨n :: l, by simp [h1], by rw [encR, h2]; rfl, by
          intro p hp
          rcases List.mem_cons.1 hp with rfl | hp
          · exact wf_i64 w1
          · exact h3 p hp⟩
theorem rows_pairs : ∀ {rows : List (List Dt)}, (∀ x ∈ rows, WT [.int .i64, .int .i64] x) → ∃ l : List (Int × Int), l.length = rows.length ∧ encR rows = flP l ∧ ∀ p ∈ l, i64P p
  | [], _ => ⟨[], rfl, rfl, by simp⟩
  | d :: r, h => by
    obtain ⟨l, h1, h2, h3⟩ := rows_pairs fun x hx => h x (List.mem_cons_of_mem _ hx)
    have hd := h d (by simp)
    cases hd with
    | int w1 hd =>
      rename_i n r1
      cases hd with
      | int w2 hd =>
        rename_i m r2
        cases hd with
        | nil => exact ⟨(n, m) :: l, by simp [h1], by rw [encR, h2]; rfl, by
            intro p hp
            rcases List.mem_cons.1 hp with rfl | hp
            · exact ⟨wf_i64 w1, wf_i64 w2⟩
            · exact h3 p hp⟩
theorem rows_lists : ∀ {rows : List (List Dt)}, (∀ x ∈ rows, WT [.sl [.int .i64]] x) → ∃ l : List (List Int), l.length = rows.length ∧ encR rows = l.map sl1P ∧ ∀ p ∈ l, p.length ≤ 9223372036854775807 ∧ ∀ x ∈ p, i64B x
  | [], _ => ⟨[], rfl, rfl, by simp⟩
  | d :: r, h => by
    obtain ⟨l, h1, h2, h3⟩ := rows_lists fun x hx => h x (List.mem_cons_of_mem _ hx)
    have hd := h d (by simp)
    cases hd with
    | sl w1 w2 hd =>
      rename_i rr r1
      cases hd with
      | nil =>
        obtain ⟨q, q1, q2, q3⟩ := rows_ints w2
        exact ⟨q :: l, by simp [h1], by rw [encR, h2]; simp only [encL, encD, q2, ← q1]; rfl, by
            intro p hp
            rcases List.mem_cons.1 hp with rfl | hp
            · exact ⟨by have : maxLen = 9223372036854775807 := rfl; omega, q3⟩
            · exact h3 p hp⟩
/-- A slice of ints, of pairs, of lists. -/
theorem arg_sl1 {W : World} {v : Value} (h : OpenR W [.sl [.int .i64]] [v]) : ∃ l : List Int, l.length ≤ 9223372036854775807 ∧ (∀ p ∈ l, i64B p) ∧ VR J0 (cln v) v ∧ Vr (rd0 W) ids0 (cln v) (sl1 l) := by
  obtain ⟨rows, h1, h2, h3, h4⟩ := arg_sl h
  obtain ⟨l, g1, g2, g3⟩ := rows_ints h1
  exact ⟨l, by omega, g3, h3, by rw [sl1, g1, ← g2]; exact h4⟩
theorem arg_slP {W : World} {v : Value} (h : OpenR W [.sl [.int .i64, .int .i64]] [v]) : ∃ l : List (Int × Int), l.length ≤ 9223372036854775807 ∧ (∀ p ∈ l, i64P p) ∧ VR J0 (cln v) v ∧ Vr (rd0 W) ids0 (cln v) (slP l) := by
  obtain ⟨rows, h1, h2, h3, h4⟩ := arg_sl h
  obtain ⟨l, g1, g2, g3⟩ := rows_pairs h1
  exact ⟨l, by omega, g3, h3, by rw [slP, g1, ← g2]; exact h4⟩
theorem arg_sl2 {W : World} {v : Value} (h : OpenR W [.sl [.sl [.int .i64]]] [v]) : ∃ l : List (List Int), l.length ≤ 9223372036854775807 ∧ (∀ p ∈ l, p.length ≤ 9223372036854775807 ∧ ∀ x ∈ p, i64B x) ∧ VR J0 (cln v) v ∧ Vr (rd0 W) ids0 (cln v) (sl2 l) := by
  obtain ⟨rows, h1, h2, h3, h4⟩ := arg_sl h
  obtain ⟨l, g1, g2, g3⟩ := rows_lists h1
  exact ⟨l, by omega, g3, h3, by rw [sl2, g1, ← g2]; exact h4⟩
end Go.Ab.V

namespace Go.Ab.Jug
open Go.Ab.V
set_option maxRecDepth 100000
theorem i64_set {u : List (Int × Int)} (h : ∀ p ∈ u, i64P p) (i : Nat) (q : Int × Int) (hq : i64P q) : ∀ p ∈ u.set i q, i64P p := fun p hp => by
  rcases List.mem_or_eq_of_mem_set hp with h1 | h1
  · exact h p h1
  · rw [h1]; exact hq
set_option maxHeartbeats 4000000 in
theorem pours_law (l m : List Int) (way : List (Int × Int)) (hl : l.length ≤ 9223372036854775807) (hm : m.length ≤ 9223372036854775807) (hw : way.length ≤ 9223372036854775807) (hwb : ∀ p ∈ way, i64P p) : VCall cfg 11 [sl1 l, sl1 m, slP way] [] [] (vb true) [] := by
  have k1 := tame_ok l 4 (by decide) hl
  generalize hX : tameJ l 4 = x at k1
  have hx : okJ x := by rw [← hX]; exact tameJ_ok l 4 (by omega)
  have hq := okJ_mem hx
  have k2 := filled_ok x m ⟨hx.1, hx.2.1⟩ hq hm
  generalize hF : fillF x m = f at k2
  have hf : fillB x f = true := by rw [← hF]; exact fillF_ok x m hq
  have hx4 : x.length ≤ 4 := hx.2.1
  have htk : List.take (min way.length 60 * 2) (flP way) = flP (way.take 60) := by
    rw [take_flP]
    rcases Nat.le_total way.length 60 with h | h
    · rw [Nat.min_eq_left h, List.take_length, List.take_of_length_le h]
    · rw [Nat.min_eq_right h]
  have hcl : (way.take 60).length = min way.length 60 := by rw [List.length_take, Nat.min_comm]
  (refine VCall.mk (fn := a11) rfl rfl rfl ?_; simp only [a11, inV, mkB, nmsL, PT.set])
  (repeat (first | refine VC.seq ?_ | refine VC.block ?_ | refine VC.kill ?_ | refine VC.skip ?_ | refine VC.exit ?_ | refine VC.regA ?_ | refine VC.condT ?_ | refine VC.condF ?_))
  (refine VC.regCA ?_; refine VO.moreA ?_; refine VO.call0A (no_orc _ (by decide)) k1 ?_; refine VO.endA ?_; (repeat (first | refine VC.seq ?_ | refine VC.block ?_ | refine VC.kill ?_ | refine VC.skip ?_ | refine VC.exit ?_ | refine VC.regA ?_ | refine VC.condT ?_ | refine VC.condF ?_)))
  (refine VC.regCA ?_; refine VO.moreA ?_; refine VO.call0A (no_orc _ (by decide)) k2 ?_; refine VO.endA ?_; (repeat (first | refine VC.seq ?_ | refine VC.block ?_ | refine VC.kill ?_ | refine VC.skip ?_ | refine VC.exit ?_ | refine VC.regA ?_ | refine VC.condT ?_ | refine VC.condF ?_)))
  have hmin : min (way.length : Int) 60 = ((min way.length 60 : Nat) : Int) := by omega
  apply VC.regU
  · (simp (config := {decide := false, maxSteps := 1000000}) (disch := omega) only [vev_call, putC_c0, putC_n0, putC_cs, ble0, List.getElem?_cons_zero, List.getElem?_cons_succ, runU, isCall, wantV, vev, evV, ofVal, ofAtom, atomB, cond_true, cond_false, PT.get, PT.set, PT.filt, PT.map, Option.getD_some, Option.getD_none, ret1V, ret1X, v_ld, v_ias, v_iad, v_fad, v_slsl, v_slarr, v_st, v_app, v_cpy, v_len, v_look, v_mset, elsV, partV, newV, free, atV, atI, atL, toVal, cellsV, okV, VSt.put, VSt.kill, VSt.alloc, VSt.frz, VSt.adopt, noref, norefB, deadB, deadV, nos, nm, nmL, nmB, nmE, Pa.eqb, Bool.not_false, Bool.not_true, Bool.and_true, Bool.true_and, Bool.false_and, Bool.and_false, bin, intOps, intBin, cvt, un, goInt, bndsV, bndV, Option.map_some, Option.map_none, List.map_cons, List.map_nil, Int.toNat_natCast, Nat.mul_one, Nat.zero_add, beq_true, beq_false, beq_self_eq_true, List.length_map, List.length_cons, List.length_nil, List.length_append, fillV, pEvV, repsV, List.append_nil, List.nil_append, if_pos, if_neg, reduceIte, List.getElem?_map, List.getElem?_drop, Nat.add_zero, List.getElem?_eq_getElem, Go.IntWalk.i64_in, wrap_u64, tmod_pos, eq_self, true_and, and_true, and_self, List.all_cons, List.all_nil, nmL_vi, flV_len, flP_len, flV_nm, flV_ok, flV_pv, flP_map, drop_flP, drop_flV, putC_flV, eqV2, eqV3, bneT, bneF, decide_true, decide_false, frzL_vi, frzL_flV, eqV_slice, eqV_ptr, eqV_func, nilS, nilP, nilF, nmL_append, okL_vi, toPVs_vi, toPVs, toPV, frzV, frzL, frzB, resVV, vi, vb, nilV, sl1, bl1, pi, foldV, max2, min2, max_eq, min_eq, Int.tdiv_eq_ediv_of_nonneg, Int.cast_ofNat_Int, Option.isSome_none, Option.isSome_some, Option.isNone_none, Option.isNone_some, and_false, false_and, sl2, sl1P, slP, min_cast, take_map_pi, map_pi, Nat.sub_zero, Nat.zero_mul, List.length_take, decide_eq_true, decide_eq_false, Bool.true_eq_false, Bool.false_eq_true, beqT, beqF, ibeq, ibne, List.take_zero, List.take_succ_cons, List.drop_zero, List.drop_succ_cons, List.drop_nil, List.take_nil, List.cons_append, Bool.not_true, Bool.not_false, hmin, htk])
    rfl
  (repeat (first | refine VC.seq ?_ | refine VC.block ?_ | refine VC.kill ?_ | refine VC.skip ?_ | refine VC.exit ?_ | refine VC.regA ?_ | refine VC.condT ?_ | refine VC.condF ?_))
  refine VC.loopG (fun (q : List (Int × Int) × Nat) => ⟨inV [p7, p8, p9, p10] [sl1 x, sl1 f, .os 2 p30 q.1.length, vi q.2] .lf, mkB [(p30, .cells (flV q.1))] .lf, [], none⟩) (fun n q => n = 2 - q.2 ∧ q.2 ≤ 2 ∧ q.1.length ≤ 60 ∧ ∀ p ∈ q.1, i64P p) (x := (way.take 60, 0)) ?_ ⟨rfl, by omega, by simp only; omega, fun p hp => hwb p (List.mem_of_mem_take hp)⟩ ?_
  · (apply G.weak; constructor <;> simp (config := {decide := true}) only [PT.Le, inV, mkB, PT.set, VSt.kill, VSt.adopt, VSt.alloc, PT.filt, PT.map, List.map_cons, List.map_nil, noref, norefB, deadB, deadV, nos, nm, nmL, nmB, nmE, Pa.eqb, cond_true, cond_false, Bool.not_true, Bool.not_false, Bool.and_true, Bool.true_and, nmL_vi, flV_len, flP_len, flV_nm, flV_ok, flV_pv, flP_map, drop_flP, drop_flV, putC_flV, eqV2, eqV3, bneT, bneF, decide_true, decide_false, frzL_vi, frzL_flV, eqV_slice, eqV_ptr, eqV_func, nilS, nilP, nilF, nmL_append, true_or, or_true, and_self, true_and, and_true, Option.some.injEq, reduceCtorEq, false_or, or_false, VV.p.injEq, PV.at.injEq, Value.int.injEq, sl1, vi, bl1, vb, nilV, htk, hcl])
  rintro n ⟨w, k⟩ ⟨hn, hk, hwl, hwb⟩
  simp only at hn hk hwl hwb
  simp only [inV, PT.set, mkB]
  (repeat (first | refine VC.seq ?_ | refine VC.block ?_ | refine VC.kill ?_ | refine VC.skip ?_ | refine VC.exit ?_ | refine VC.regA ?_ | refine VC.condT ?_ | refine VC.condF ?_))
  refine VC.condA ?_ ?_ <;> intro h <;> (simp only [decide_eq_true_eq, decide_eq_false_iff_not, bne_iff_ne, ne_eq, bne_eq_false_iff_eq, beq_iff_eq, beq_eq_false_iff_ne, Bool.not_eq_true', Bool.not_eq_false', Bool.and_eq_true, Bool.or_eq_true, Int.natCast_inj] at h)
  · have h : k < 2 := by omega
    have k3 := PourW_ok x f w hx hf (fun p hp => hwb p hp) (by omega)
    have k4 := PourRW_ok x f w hx hf (fun p hp => hwb p hp) (by omega)
    have hlr : (pourR x f w).1.length = x.length := ((fillB_iff x _).1 (pourR_fill x w f hf)).1
    generalize pourR x f w = R at k3 k4 hlr
    obtain ⟨R, N⟩ := R
    have k5 := ints_ok R R (by simp only at hlr; omega)
    rw [decide_eq_true rfl] at k5
    (repeat (first | refine VC.seq ?_ | refine VC.block ?_ | refine VC.kill ?_ | refine VC.skip ?_ | refine VC.exit ?_ | refine VC.regA ?_ | refine VC.condT ?_ | refine VC.condF ?_))
    refine VC.regCA ?_
    refine VO.moreA ?_
    refine VO.call [] [(p30, .cells (flV w))] .lf rfl rfl (no_orc 40 (by decide)) k3 trivial ?_ (by trivial) rfl rfl rfl rfl rfl rfl rfl ?_
    · simp [mkB, PT.set, PT.Le]
    (simp only [filtN, filtNB, mkB, PT.set, VSt.put, PT.filt, noref, nos, nm, nmL, Pa.eqb, cond_true, cond_false, Bool.and_true, Bool.not_false, Bool.not_true])
    refine VO.endA ?_
    (repeat (first | refine VC.seq ?_ | refine VC.block ?_ | refine VC.kill ?_ | refine VC.skip ?_ | refine VC.exit ?_ | refine VC.regA ?_ | refine VC.condT ?_ | refine VC.condF ?_))
    refine VC.regCA ?_
    refine VO.call [] [(p30, .cells (flV w))] .lf rfl rfl (no_orc 35 (by decide)) k4 trivial ?_ (by trivial) rfl rfl rfl rfl rfl rfl rfl ?_
    · simp [mkB, PT.set, PT.Le]
    (simp only [filtN, filtNB, mkB, PT.set, VSt.put, PT.filt, noref, nos, nm, nmL, Pa.eqb, cond_true, cond_false, Bool.and_true, Bool.not_false, Bool.not_true])
    refine VO.endA ?_
    (repeat (first | refine VC.seq ?_ | refine VC.block ?_ | refine VC.kill ?_ | refine VC.skip ?_ | refine VC.exit ?_ | refine VC.regA ?_ | refine VC.condT ?_ | refine VC.condF ?_))
    refine VC.regCA ?_
    refine VO.moreA ?_
    refine VO.call0A (no_orc 33 (by decide)) k5 ?_
    refine VO.endA ?_
    (repeat (first | refine VC.seq ?_ | refine VC.block ?_ | refine VC.kill ?_ | refine VC.skip ?_ | refine VC.exit ?_ | refine VC.regA ?_ | refine VC.condT ?_ | refine VC.condF ?_))
    refine VC.loopG (fun (q : List (Int × Int) × Nat) => ⟨inV [p7, p8, p9, p10, p16] [sl1 x, sl1 f, .os 2 p30 q.1.length, vi k, vi q.2] .lf, mkB [(p30, .cells (flV q.1))] .lf, [], none⟩) (fun n q => n = q.1.length - q.2 ∧ q.2 ≤ q.1.length ∧ q.1.length ≤ 60 ∧ ∀ p ∈ q.1, i64P p) (x := (w, 0)) ?_ ⟨rfl, Nat.zero_le _, hwl, hwb⟩ ?_
    · (apply G.weak; constructor <;> simp (config := {decide := true}) only [PT.Le, inV, mkB, PT.set, VSt.kill, VSt.adopt, VSt.alloc, PT.filt, PT.map, List.map_cons, List.map_nil, noref, norefB, deadB, deadV, nos, nm, nmL, nmB, nmE, Pa.eqb, cond_true, cond_false, Bool.not_true, Bool.not_false, Bool.and_true, Bool.true_and, nmL_vi, flV_len, flP_len, flV_nm, flV_ok, flV_pv, flP_map, drop_flP, drop_flV, putC_flV, eqV2, eqV3, bneT, bneF, decide_true, decide_false, frzL_vi, frzL_flV, eqV_slice, eqV_ptr, eqV_func, nilS, nilP, nilF, nmL_append, true_or, or_true, and_self, true_and, and_true, Option.some.injEq, reduceCtorEq, false_or, or_false, VV.p.injEq, PV.at.injEq, Value.int.injEq, sl1, vi, bl1, vb, nilV])
    rintro n' ⟨u, i⟩ ⟨hn', hi, hul, hub⟩
    simp only at hn' hi hul hub
    simp only [inV, PT.set, mkB]
    (repeat (first | refine VC.seq ?_ | refine VC.block ?_ | refine VC.kill ?_ | refine VC.skip ?_ | refine VC.exit ?_ | refine VC.regA ?_ | refine VC.condT ?_ | refine VC.condF ?_))
    refine VC.condA ?_ ?_ <;> intro h' <;> (simp only [decide_eq_true_eq, decide_eq_false_iff_not, bne_iff_ne, ne_eq, bne_eq_false_iff_eq, beq_iff_eq, beq_eq_false_iff_ne, Bool.not_eq_true', Bool.not_eq_false', Bool.and_eq_true, Bool.or_eq_true, Int.natCast_inj] at h')
    · have h' : i < u.length := by omega
      have hui := hub _ (List.getElem_mem h')
      unfold i64P at hui
      have hm0 : ((x.length : Int) + 1) % 18446744073709551616 = x.length + 1 := Int.emod_eq_of_lt (by omega) (by omega)
      have hr : ∀ v : Int, 0 ≤ v % 18446744073709551616 % ((x.length : Int) + 1) ∧ v % 18446744073709551616 % ((x.length : Int) + 1) < x.length + 1 := fun v => ⟨Int.emod_nonneg _ (by omega), Int.emod_lt_of_pos _ (by omega)⟩
      have hr0 : ∀ v : Int, 0 ≤ v % 18446744073709551616 := fun v => Int.emod_nonneg _ (by decide)
      have e0 := hr0 u[i].1
      have e1 := hr0 u[i].2
      have e2 := hr u[i].1
      have e3 := hr u[i].2
      generalize hV : u[i] = V at *
      (repeat (first | refine VC.seq ?_ | refine VC.block ?_ | refine VC.kill ?_ | refine VC.skip ?_ | refine VC.exit ?_ | refine VC.regA ?_ | refine VC.condT ?_ | refine VC.condF ?_))
      apply VC.regU
      · (simp (config := {decide := false, maxSteps := 1000000}) (disch := omega) only [vev_call, putC_c0, putC_n0, putC_cs, ble0, List.getElem?_cons_zero, List.getElem?_cons_succ, runU, isCall, wantV, vev, evV, ofVal, ofAtom, atomB, cond_true, cond_false, PT.get, PT.set, PT.filt, PT.map, Option.getD_some, Option.getD_none, ret1V, ret1X, v_ld, v_ias, v_iad, v_fad, v_slsl, v_slarr, v_st, v_app, v_cpy, v_len, v_look, v_mset, elsV, partV, newV, free, atV, atI, atL, toVal, cellsV, okV, VSt.put, VSt.kill, VSt.alloc, VSt.frz, VSt.adopt, noref, norefB, deadB, deadV, nos, nm, nmL, nmB, nmE, Pa.eqb, Bool.not_false, Bool.not_true, Bool.and_true, Bool.true_and, Bool.false_and, Bool.and_false, bin, intOps, intBin, cvt, un, goInt, bndsV, bndV, Option.map_some, Option.map_none, List.map_cons, List.map_nil, Int.toNat_natCast, Nat.mul_one, Nat.zero_add, beq_true, beq_false, beq_self_eq_true, List.length_map, List.length_cons, List.length_nil, List.length_append, fillV, pEvV, repsV, List.append_nil, List.nil_append, if_pos, if_neg, reduceIte, List.getElem?_map, List.getElem?_drop, Nat.add_zero, List.getElem?_eq_getElem, Go.IntWalk.i64_in, wrap_u64, tmod_pos, eq_self, true_and, and_true, and_self, List.all_cons, List.all_nil, nmL_vi, flV_len, flP_len, flV_nm, flV_ok, flV_pv, flP_map, drop_flP, drop_flV, putC_flV, eqV2, eqV3, bneT, bneF, decide_true, decide_false, frzL_vi, frzL_flV, eqV_slice, eqV_ptr, eqV_func, nilS, nilP, nilF, nmL_append, okL_vi, toPVs_vi, toPVs, toPV, frzV, frzL, frzB, resVV, vi, vb, nilV, sl1, bl1, pi, foldV, max2, min2, max_eq, min_eq, Int.tdiv_eq_ediv_of_nonneg, Int.cast_ofNat_Int, Option.isSome_none, Option.isSome_some, Option.isNone_none, Option.isNone_some, and_false, false_and, sl2, sl1P, slP, min_cast, take_map_pi, map_pi, Nat.sub_zero, Nat.zero_mul, List.length_take, decide_eq_true, decide_eq_false, Bool.true_eq_false, Bool.false_eq_true, beqT, beqF, ibeq, ibne, List.take_zero, List.take_succ_cons, List.drop_zero, List.drop_succ_cons, List.drop_nil, List.take_nil, List.cons_append, Bool.not_true, Bool.not_false, Int.toNat_zero, Int.toNat_one, get_flV0, get_flV1, hV, hm0])
        rfl
      (repeat (first | refine VC.seq ?_ | refine VC.block ?_ | refine VC.kill ?_ | refine VC.skip ?_ | refine VC.exit ?_ | refine VC.regA ?_ | refine VC.condT ?_ | refine VC.condF ?_))
      apply VC.regU
      · (simp (config := {decide := false, maxSteps := 1000000}) (disch := omega) only [vev_call, putC_c0, putC_n0, putC_cs, ble0, List.getElem?_cons_zero, List.getElem?_cons_succ, runU, isCall, wantV, vev, evV, ofVal, ofAtom, atomB, cond_true, cond_false, PT.get, PT.set, PT.filt, PT.map, Option.getD_some, Option.getD_none, ret1V, ret1X, v_ld, v_ias, v_iad, v_fad, v_slsl, v_slarr, v_st, v_app, v_cpy, v_len, v_look, v_mset, elsV, partV, newV, free, atV, atI, atL, toVal, cellsV, okV, VSt.put, VSt.kill, VSt.alloc, VSt.frz, VSt.adopt, noref, norefB, deadB, deadV, nos, nm, nmL, nmB, nmE, Pa.eqb, Bool.not_false, Bool.not_true, Bool.and_true, Bool.true_and, Bool.false_and, Bool.and_false, bin, intOps, intBin, cvt, un, goInt, bndsV, bndV, Option.map_some, Option.map_none, List.map_cons, List.map_nil, Int.toNat_natCast, Nat.mul_one, Nat.zero_add, beq_true, beq_false, beq_self_eq_true, List.length_map, List.length_cons, List.length_nil, List.length_append, fillV, pEvV, repsV, List.append_nil, List.nil_append, if_pos, if_neg, reduceIte, List.getElem?_map, List.getElem?_drop, Nat.add_zero, List.getElem?_eq_getElem, Go.IntWalk.i64_in, wrap_u64, tmod_pos, eq_self, true_and, and_true, and_self, List.all_cons, List.all_nil, nmL_vi, flV_len, flP_len, flV_nm, flV_ok, flV_pv, flP_map, drop_flP, drop_flV, putC_flV, eqV2, eqV3, bneT, bneF, decide_true, decide_false, frzL_vi, frzL_flV, eqV_slice, eqV_ptr, eqV_func, nilS, nilP, nilF, nmL_append, okL_vi, toPVs_vi, toPVs, toPV, frzV, frzL, frzB, resVV, vi, vb, nilV, sl1, bl1, pi, foldV, max2, min2, max_eq, min_eq, Int.tdiv_eq_ediv_of_nonneg, Int.cast_ofNat_Int, Option.isSome_none, Option.isSome_some, Option.isNone_none, Option.isNone_some, and_false, false_and, sl2, sl1P, slP, min_cast, take_map_pi, map_pi, Nat.sub_zero, Nat.zero_mul, List.length_take, decide_eq_true, decide_eq_false, Bool.true_eq_false, Bool.false_eq_true, beqT, beqF, ibeq, ibne, List.take_zero, List.take_succ_cons, List.drop_zero, List.drop_succ_cons, List.drop_nil, List.take_nil, List.cons_append, Bool.not_true, Bool.not_false, Int.toNat_zero, Int.toNat_one, get_flV0, get_flV1, hV, hm0])
        rfl
      (repeat (first | refine VC.seq ?_ | refine VC.block ?_ | refine VC.kill ?_ | refine VC.skip ?_ | refine VC.exit ?_ | refine VC.regA ?_ | refine VC.condT ?_ | refine VC.condF ?_))
      have hA : ∀ v : Int, (-9223372036854775808 ≤ v % 18446744073709551616 % ((x.length : Int) + 1) - 1 ∧ v % 18446744073709551616 % ((x.length : Int) + 1) - 1 ≤ 9223372036854775807) := fun v => by have := hr v; omega
      have hA1 := hA V.1
      have hB1 := hA V.2
      have hset : ∀ A B : Int, (-9223372036854775808 ≤ A ∧ A ≤ 9223372036854775807) → (-9223372036854775808 ≤ B ∧ B ≤ 9223372036854775807) → ∀ p ∈ u.set i (A, B), i64P p := fun A B h1 h2 => i64_set hub i (A, B) ⟨h1, h2⟩
      generalize V.1 % 18446744073709551616 % ((x.length : Int) + 1) - 1 = A at *
      generalize V.2 % 18446744073709551616 % ((x.length : Int) + 1) - 1 = B at *
      refine VC.condA ?_ ?_ <;> intro h2 <;> (simp only [decide_eq_true_eq, decide_eq_false_iff_not, bne_iff_ne, ne_eq, bne_eq_false_iff_eq, beq_iff_eq, beq_eq_false_iff_ne, Bool.not_eq_true', Bool.not_eq_false', Bool.and_eq_true, Bool.or_eq_true, Int.natCast_inj] at h2)
      · have hl2 : (u.set i (A, B)).length = u.length := by simp
        have h3 : i < (u.set i (A, B)).length := by omega
        (repeat (first | refine VC.seq ?_ | refine VC.block ?_ | refine VC.kill ?_ | refine VC.skip ?_ | refine VC.exit ?_ | refine VC.regA ?_ | refine VC.condT ?_ | refine VC.condF ?_))
        refine ⟨_, ((u.set i (A, B)).set i (-1, 0), i + 1), ?_, ⟨rfl, by simp; omega, by simp; omega, i64_set (hset A B hA1 hB1) i _ (by unfold i64P; omega)⟩, ?_⟩
        · simp; omega
        · (apply G.weak; constructor <;> simp (config := {decide := true}) only [PT.Le, inV, mkB, PT.set, VSt.kill, VSt.adopt, VSt.alloc, PT.filt, PT.map, List.map_cons, List.map_nil, noref, norefB, deadB, deadV, nos, nm, nmL, nmB, nmE, Pa.eqb, cond_true, cond_false, Bool.not_true, Bool.not_false, Bool.and_true, Bool.true_and, nmL_vi, flV_len, flP_len, flV_nm, flV_ok, flV_pv, flP_map, drop_flP, drop_flV, putC_flV, eqV2, eqV3, bneT, bneF, decide_true, decide_false, frzL_vi, frzL_flV, eqV_slice, eqV_ptr, eqV_func, nilS, nilP, nilF, nmL_append, true_or, or_true, and_self, true_and, and_true, Option.some.injEq, reduceCtorEq, false_or, or_false, VV.p.injEq, PV.at.injEq, Value.int.injEq, sl1, vi, bl1, vb, nilV, List.length_set])
          (all_goals first | rfl | omega | exact ⟨rfl, by omega⟩)
      · (repeat (first | refine VC.seq ?_ | refine VC.block ?_ | refine VC.kill ?_ | refine VC.skip ?_ | refine VC.exit ?_ | refine VC.regA ?_ | refine VC.condT ?_ | refine VC.condF ?_))
        refine ⟨_, (u.set i (A, B), i + 1), ?_, ⟨rfl, by simp; omega, by simp; omega, hset A B hA1 hB1⟩, ?_⟩
        · simp; omega
        · (apply G.weak; constructor <;> simp (config := {decide := true}) only [PT.Le, inV, mkB, PT.set, VSt.kill, VSt.adopt, VSt.alloc, PT.filt, PT.map, List.map_cons, List.map_nil, noref, norefB, deadB, deadV, nos, nm, nmL, nmB, nmE, Pa.eqb, cond_true, cond_false, Bool.not_true, Bool.not_false, Bool.and_true, Bool.true_and, nmL_vi, flV_len, flP_len, flV_nm, flV_ok, flV_pv, flP_map, drop_flP, drop_flV, putC_flV, eqV2, eqV3, bneT, bneF, decide_true, decide_false, frzL_vi, frzL_flV, eqV_slice, eqV_ptr, eqV_func, nilS, nilP, nilF, nmL_append, true_or, or_true, and_self, true_and, and_true, Option.some.injEq, reduceCtorEq, false_or, or_false, VV.p.injEq, PV.at.injEq, Value.int.injEq, sl1, vi, bl1, vb, nilV, List.length_set])
          (all_goals first | rfl | omega | exact ⟨rfl, by omega⟩)
    · (repeat (first | refine VC.seq ?_ | refine VC.block ?_ | refine VC.kill ?_ | refine VC.skip ?_ | refine VC.exit ?_ | refine VC.regA ?_ | refine VC.condT ?_ | refine VC.condF ?_))
      refine ⟨_, (u, k + 1), ?_, ⟨rfl, by simp only; omega, hul, hub⟩, ?_⟩
      · simp only; omega
      · (apply G.weak; constructor <;> simp (config := {decide := true}) only [PT.Le, inV, mkB, PT.set, VSt.kill, VSt.adopt, VSt.alloc, PT.filt, PT.map, List.map_cons, List.map_nil, noref, norefB, deadB, deadV, nos, nm, nmL, nmB, nmE, Pa.eqb, cond_true, cond_false, Bool.not_true, Bool.not_false, Bool.and_true, Bool.true_and, nmL_vi, flV_len, flP_len, flV_nm, flV_ok, flV_pv, flP_map, drop_flP, drop_flV, putC_flV, eqV2, eqV3, bneT, bneF, decide_true, decide_false, frzL_vi, frzL_flV, eqV_slice, eqV_ptr, eqV_func, nilS, nilP, nilF, nmL_append, true_or, or_true, and_self, true_and, and_true, Option.some.injEq, reduceCtorEq, false_or, or_false, VV.p.injEq, PV.at.injEq, Value.int.injEq, sl1, vi, bl1, vb, nilV]); rfl
  · (repeat (first | refine VC.seq ?_ | refine VC.block ?_ | refine VC.kill ?_ | refine VC.skip ?_ | refine VC.exit ?_ | refine VC.regA ?_ | refine VC.condT ?_ | refine VC.condF ?_))
    refine VC.regCA ?_
    refine VO.moreA ?_
    refine VO.knownA (.bool true) rfl ?_
    refine VO.endA ?_
    (repeat (first | refine VC.seq ?_ | refine VC.block ?_ | refine VC.kill ?_ | refine VC.skip ?_ | refine VC.exit ?_ | refine VC.regA ?_ | refine VC.condT ?_ | refine VC.condF ?_))
    exact VC.ret (Fin.A rfl)
end Go.Ab.Jug

namespace Go.Proofs.Ytcbhobkfffgfdaa.jugPours
open Go.ChangeShapes Go.WideShapes Go.ChangeAt Go.RowKit
open Go.ChangeMaps (open_string shut_string)
open Go.Ab Go.Ab.V Go.Ab.Jug
set_option linter.unusedVariables false
theorem own : ownKnob Try.prog.godebug = none := by kernel_rfl
theorem laidOut : laidOutB Try.prog = true := by kernel_rfl
theorem orc : OrcOK Try.prog cfg := orcOK mixed tab0 (fun h => by cases h) rfl awake_closed
theorem tab : TabOK Try.prog cfg := tab0
set_option maxRecDepth 100000 in
theorem lifted (os : Os) (started : os.Started) (H : Type) (enc : TypeId × Value → H) :
    ReturnsInHanded {} Try.checked os 11 .any (Rows.jugPoursSpec.pre6 enc Try.prog Try.f11 Rows.jugPoursRow.domain false) (Rows.jugPoursSpec.post enc Try.prog Try.f11 false true false false) := by
  refine returnsInHanded_of_change (C := Try.checked) own started (by kernel_rfl) Try.func11
    (ChangeSpec.witness6 (enc := enc) (C := Try.checked) false ⟨#[], #[.slice none 0 0, .slice none 0 0, .slice none 0 0], []⟩ 8 (by kernel_rfl) (by kernel_rfl) (by kernel_rfl) (by kernel_rfl)) ?_
  intro W base args ds gs before hval0 hW hcnd _
  have hval : ∀ (j : Nat) t v, Try.f11.params[j]? = some t → args[j]? = some v → Value.okWide Try.prog W .any base t v := hval0
  have hW' := hW
  obtain ⟨p, q, hA0, hV, rfl, hfz, hnd⟩ := hW
  have hA : DataW.TrodAll enc Try.prog W 0 (fun _ => true) true Try.f11.params.toList args.toList ds p := hA0
  rw [Try.params11] at hA hval
  obtain ⟨v0, vs0, d0, ds0, p0, q0, hargs, rfl, rfl, h0, r0⟩ := trodAll_cons hA
  obtain ⟨v1, vs1, d1, ds1, p1, q1, rfl, rfl, rfl, h1, r1⟩ := trodAll_cons r0
  obtain ⟨v2, vs2, d2, ds2, p2, q2, rfl, rfl, rfl, h2, r2⟩ := trodAll_cons r1
  obtain ⟨rfl, rfl, rfl⟩ := trodAll_nil r2
  obtain rfl : args = #[v0, v1, v2] := by cases args; simp_all
  obtain ⟨rfl, rfl⟩ := trodVars_none hV
  obtain ⟨a0, len0, cap0, rfl⟩ := okWide_slice Try.underlying22 (hval 0 22 v0 rfl rfl)
  have k0 := h0
  have lt0 : ∀ x ∈ p0, x.block < W.heap.size := by obtain ⟨m, hm⟩ := k0; exact DataW.trod_lt m _ _ _ hm
  obtain ⟨z0, w0⟩ : ∃ zs, V.IsRow .i64 W a0 len0 cap0 zs := by
    obtain ⟨fuel, hf⟩ := h0
    rcases open_ints Try.underlying22 Try.underlying3 (by kernel_rfl) hf with ⟨hcs, _⟩ | ⟨x, l, c, zs, hcs, _, hl, hm, hz, _, hcell, hwz⟩
    · simp [Value.cells] at hcs
      obtain ⟨rfl, rfl, rfl⟩ := hcs
      exact ⟨[], .inl ⟨rfl, rfl, rfl, rfl⟩⟩
    · simp [Value.cells] at hcs
      obtain ⟨rfl, rfl, rfl⟩ := hcs
      exact ⟨zs, .inr ⟨_, rfl, hl, hm, by simpa using hz, hcell, hwz⟩⟩
  obtain ⟨av0, ar0, ap0, al0⟩ := arg_ints w0
  obtain ⟨a1, len1, cap1, rfl⟩ := okWide_slice Try.underlying22 (hval 1 22 v1 rfl rfl)
  have k1 := h1
  have lt1 : ∀ x ∈ p1, x.block < W.heap.size := by obtain ⟨m, hm⟩ := k1; exact DataW.trod_lt m _ _ _ hm
  obtain ⟨z1, w1⟩ : ∃ zs, V.IsRow .i64 W a1 len1 cap1 zs := by
    obtain ⟨fuel, hf⟩ := h1
    rcases open_ints Try.underlying22 Try.underlying3 (by kernel_rfl) hf with ⟨hcs, _⟩ | ⟨x, l, c, zs, hcs, _, hl, hm, hz, _, hcell, hwz⟩
    · simp [Value.cells] at hcs
      obtain ⟨rfl, rfl, rfl⟩ := hcs
      exact ⟨[], .inl ⟨rfl, rfl, rfl, rfl⟩⟩
    · simp [Value.cells] at hcs
      obtain ⟨rfl, rfl, rfl⟩ := hcs
      exact ⟨zs, .inr ⟨_, rfl, hl, hm, by simpa using hz, hcell, hwz⟩⟩
  obtain ⟨av1, ar1, ap1, al1⟩ := arg_ints w1
  obtain ⟨a2, len2, cap2, rfl⟩ := okWide_slice Try.underlying25 (hval 2 25 v2 rfl rfl)
  have k2 := h2
  have lt2 : ∀ x ∈ p2, x.block < W.heap.size := by obtain ⟨m, hm⟩ := k2; exact DataW.trod_lt m _ _ _ hm
  have lv2 : V.Leaves Try.prog 25 [.sl [.int .i64, .int .i64]] := (.sl Try.underlying25 (.arr Try.underlying30 (.int Try.underlying3) (by kernel_rfl) (by kernel_rfl)) (by kernel_rfl) (by simp))
  obtain ⟨z2, zl2, zb2, zr2, zv2⟩ := V.arg_slP (show V.OpenR W [.sl [.int .i64, .int .i64]] [.slice a2 len2 cap2] from by obtain ⟨fuel, hf⟩ := h2; exact V.open_all lv2 hf)
  clear hA0 hval0
  refine (calls_true mixed tab orc (pours_law _ _ _ al0 al1 zl2 zb2) (All2.cons ap0 (All2.cons ap1 (All2.cons zv2 .nil))) (LR.cons ar0 (LR.cons ar1 (LR.cons zr2 (LR.nil _))))).mono fun e W' ⟨he, bel⟩ => ?_
  subst he
  exact ⟨_, rfl, _, _, _, [], _, [], hW', trodAll_mk1 (shut_bool Try.underlying4 _), (trodAll_cons_mk (Below.trod laidOut (by kernel_rfl) (of_decide_eq_true (by kernel_rfl)) k0 bel lt0) (trodAll_cons_mk (Below.trod laidOut (by kernel_rfl) (of_decide_eq_true (by kernel_rfl)) k1 bel lt1) (trodAll_cons_mk (Below.trod laidOut (by kernel_rfl) (of_decide_eq_true (by kernel_rfl)) k2 bel lt2) trodAll_mk0))), rfl, bel.frame _, fun h => by cases h⟩
theorem over : Rows.jugPoursRow.holds Try.pinned (OpenSpec.ofChange Rows.jugPoursSpec) :=
  OpenClaim.holds_of_wide 11 Try.f11 rfl rfl rfl rfl rfl rfl rfl ⟨rfl, rfl, rfl, rfl, rfl⟩ rfl rfl rfl rfl rfl (by kernel_rfl) Try.func11 (by kernel_rfl)
    (of_decide_eq_true (by kernel_rfl)) (by unfold Func.isWrapper; first | (rw [if_pos (by decide +kernel)]; kernel_rfl) | (rw [if_neg (by decide +kernel)]; exact ⟨rfl, rfl⟩))
    (fun os started H enc _ => lifted os started H enc)
theorem proved : Rows.JugPoursSaid := over
end Go.Proofs.Ytcbhobkfffgfdaa.jugPours
namespace Go.Proofs.Ytcbhobkfffgfdaa
/-- The row, under a short name, for the claim. -/
theorem jugPours_holds : Rows.JugPoursSaid := jugPours.proved
end Go.Proofs.Ytcbhobkfffgfdaa
