/- Proved: for every input the law JugOwn returns true, and each argument reads afterwards as it read before. No condition. -/
import Derived.Test.YtcbhobkfffgfdaaRows
import Derived.WalkKit
import Derived.ProofKit
import Derived.OpenShut
import Derived.ShutString
import Derived.ChangeOld
import Derived.Below
import Derived.Carry
import Derived.Test.YtcbhobkfffgfdaaA03
set_option linter.unusedSimpArgs false
set_option linter.unusedVariables false
namespace Go.Ab.Jug
open Go.Ab.V
set_option maxRecDepth 100000
theorem amts_pos {x : List Int} (hx : okJ x) : 0 < (amts x).length := by
  simp only [amts, List.length_map, List.length_range]; exact Nat.succ_pos _
theorem amts_zero {x : List Int} (hx : okJ x) (h : 0 < (amts x).length) : (amts x)[0] = 0 := by
  simp [amts]
set_option maxHeartbeats 8000000 in
theorem own_law (l m : List Int) (hl : l.length ≤ 9223372036854775807) (hm : m.length ≤ 9223372036854775807) : VCall cfg 13 [sl1 l, sl1 m] [] [] (vb true) [] := by
  have k1 := tame_ok l 3 (by decide) hl
  generalize hX : tameJ l 3 = x at k1
  have hx : okJ x := by rw [← hX]; exact tameJ_ok l 3 (by omega)
  have hq := okJ_mem hx
  have hx4 : x.length ≤ 4 := hx.2.1
  have k2 := filled_ok x m ⟨hx.1, hx.2.1⟩ hq hm
  generalize hF : fillF x m = a at k2
  have ha : fillB x a = true := by rw [← hF]; exact fillF_ok x m hq
  have hla := ((fillB_iff x a).1 ha).1
  have k3 := few_ok x 4 (by decide) (by omega)
  have k4 := few_ok a 4 (by decide) (by omega)
  rw [List.take_of_length_le (by omega)] at k3 k4
  have k5 := StepsO_ok x a false hx ha
  have k6 := PourO_nil x a hx ha
  have k7 := AmountsO_ok x hx
  have k8 := Amounts_ok x hx
  have k9 := ints_ok x x (by omega)
  have k10 := ints_ok a a (by omega)
  rw [decide_eq_true rfl] at k9 k10
  have hal := amts_len hx
  have ha0 := amts_pos hx
  have haz := amts_zero hx ha0
  generalize hA : amts x = A at *
  have h25 := allR_len25 x a false hx4
  generalize hS : allR x a false (x.length + 1) = W at *
  (refine VCall.mk (fn := a13) rfl rfl rfl ?_; simp only [a13, inV, mkB, nmsL, PT.set])
  (repeat (first | refine VC.seq ?_ | refine VC.block ?_ | refine VC.kill ?_ | refine VC.skip ?_ | refine VC.exit ?_ | refine VC.regA ?_ | refine VC.condT ?_ | refine VC.condF ?_))
  (refine VC.regCA ?_; refine VO.moreA ?_; refine VO.call0A (no_orc _ (by decide)) k1 ?_; refine VO.endA ?_; (repeat (first | refine VC.seq ?_ | refine VC.block ?_ | refine VC.kill ?_ | refine VC.skip ?_ | refine VC.exit ?_ | refine VC.regA ?_ | refine VC.condT ?_ | refine VC.condF ?_)))
  (refine VC.regCA ?_; refine VO.moreA ?_; refine VO.call0A (no_orc _ (by decide)) k2 ?_; refine VO.endA ?_; (repeat (first | refine VC.seq ?_ | refine VC.block ?_ | refine VC.kill ?_ | refine VC.skip ?_ | refine VC.exit ?_ | refine VC.regA ?_ | refine VC.condT ?_ | refine VC.condF ?_)))
  (refine VC.regCA ?_; refine VO.moreA ?_; refine VO.call0A (no_orc _ (by decide)) k3 ?_)
  (refine VO.moreA ?_; refine VO.call0A (no_orc _ (by decide)) k4 ?_)
  (refine VO.endA ?_; (repeat (first | refine VC.seq ?_ | refine VC.block ?_ | refine VC.kill ?_ | refine VC.skip ?_ | refine VC.exit ?_ | refine VC.regA ?_ | refine VC.condT ?_ | refine VC.condF ?_)))
  refine VC.regCA ?_
  refine VO.moreA ?_
  refine VO.callN (no_orc 18 (by decide)) k5 rfl rfl rfl rfl rfl rfl ?_
  (simp only [filtN, filtNB, mkB, PT.set, VSt.put, PT.filt, noref, norefB, nos, nm, nmL, nmB, nmL_vi, nmL_map_p, nmE_ag, flV_nm, List.nil_append, List.append_nil, Pa.eqb, cond_true, cond_false, Bool.and_true, Bool.not_false, Bool.not_true])
  refine VO.endA ?_
  (repeat (first | refine VC.seq ?_ | refine VC.block ?_ | refine VC.kill ?_ | refine VC.skip ?_ | refine VC.exit ?_ | refine VC.regA ?_ | refine VC.condT ?_ | refine VC.condF ?_))
  refine VC.regCA ?_
  refine VO.moreA ?_
  refine VO.callN (no_orc 40 (by decide)) k6 rfl rfl rfl rfl rfl rfl ?_
  (simp only [filtN, filtNB, mkB, PT.set, VSt.put, PT.filt, noref, norefB, nos, nm, nmL, nmB, nmL_vi, nmL_map_p, nmE_ag, flV_nm, List.nil_append, List.append_nil, Pa.eqb, cond_true, cond_false, Bool.and_true, Bool.not_false, Bool.not_true])
  refine VO.endA ?_
  (repeat (first | refine VC.seq ?_ | refine VC.block ?_ | refine VC.kill ?_ | refine VC.skip ?_ | refine VC.exit ?_ | refine VC.regA ?_ | refine VC.condT ?_ | refine VC.condF ?_))
  refine VC.regCA ?_
  refine VO.moreA ?_
  refine VO.callN (no_orc 30 (by decide)) k7 rfl rfl rfl rfl rfl rfl ?_
  (simp only [filtN, filtNB, mkB, PT.set, VSt.put, PT.filt, noref, norefB, nos, nm, nmL, nmB, nmL_vi, nmL_map_p, nmE_ag, flV_nm, List.nil_append, List.append_nil, Pa.eqb, cond_true, cond_false, Bool.and_true, Bool.not_false, Bool.not_true])
  refine VO.endA ?_
  (repeat (first | refine VC.seq ?_ | refine VC.block ?_ | refine VC.kill ?_ | refine VC.skip ?_ | refine VC.exit ?_ | refine VC.regA ?_ | refine VC.condT ?_ | refine VC.condF ?_))
  clear k1 k2 k3 k4 k5 k6 k7
  refine VC.loopG (fun (q : List (Int × Int) × Nat) => ⟨inV [p5, p6, p7, p8, p9, p10, p11, p12, p13, p14, p15, p16] [sl1 x, sl1 a, sl1 x, sl1 a, .os 2 p36 q.1.length, vi 0, .os 1 p5 a.length, vi 0, vi 0, .os 1 p23 A.length, vi 0, vi q.2] .lf, mkB [(p36, .cells (flV q.1)), (p5, .cells (a.map vi)), (p23, .cells (A.map vi))] .lf, [], none⟩) (fun n q => n = q.1.length - q.2 ∧ q.2 ≤ q.1.length ∧ q.1.length ≤ 25) (x := (W, 0)) ?_ ⟨rfl, Nat.zero_le _, h25⟩ ?_
  · (apply Go.Ab.V.G.weak; constructor <;> simp (config := {decide := true}) only [PT.Le, inV, mkB, PT.set, VSt.kill, VSt.adopt, VSt.alloc, PT.filt, PT.map, List.map_cons, List.map_nil, noref, norefB, deadB, deadV, nos, nm, nmL, nmB, nmE, Pa.eqb, cond_true, cond_false, Bool.not_true, Bool.not_false, Bool.and_true, Bool.true_and, nmL_vi, flV_len, flP_len, flV_nm, flV_ok, flV_pv, flP_map, drop_flP, drop_flV, putC_flV, eqV2, eqV3, bneT, bneF, decide_true, decide_false, frzL_vi, frzL_flV, nmE_ag, nmE_at, frzE_ag, frzE_at, ofAg_len, ofAt_len, atL_vi, nmL_map_p, frzL_map_p, okL_p, toPVs_p, repsZ, nmL_reps, putC_vi, get_flV0, get_flV1, Int.toNat_zero, Int.toNat_one, Int.reduceToNat, eqV_slice, eqV_ptr, eqV_func, nilS, nilP, nilF, nmL_append, true_or, or_true, and_self, true_and, and_true, Option.some.injEq, reduceCtorEq, false_or, or_false, VV.p.injEq, PV.at.injEq, Value.int.injEq, sl1, vi, bl1, vb, nilV, sl1, bl1])
    (all_goals first | rfl | omega | exact ⟨rfl, by omega⟩)
  clear h25 hS W
  rintro n ⟨W, k⟩ ⟨hn, hk, h25⟩
  simp only at hn hk h25
  simp only [inV, PT.set, mkB]
  (repeat (first | refine VC.seq ?_ | refine VC.block ?_ | refine VC.kill ?_ | refine VC.skip ?_ | refine VC.exit ?_ | refine VC.regA ?_ | refine VC.condT ?_ | refine VC.condF ?_))
  refine VC.condA ?_ ?_ <;> intro h <;> (simp only [decide_eq_true_eq, decide_eq_false_iff_not, bne_iff_ne, ne_eq, bne_eq_false_iff_eq, beq_iff_eq, beq_eq_false_iff_ne, Bool.not_eq_true', Bool.not_eq_false', Bool.and_eq_true, Bool.or_eq_true, Int.natCast_inj] at h)
  · have h : k < W.length := by omega
    have hset : (W.set k (-7, -7)).length = W.length := List.length_set ..
    (repeat (first | refine VC.seq ?_ | refine VC.block ?_ | refine VC.kill ?_ | refine VC.skip ?_ | refine VC.exit ?_ | refine VC.regA ?_ | refine VC.condT ?_ | refine VC.condF ?_))
    refine ⟨_, (W.set k (-7, -7), k + 1), ?_, ⟨rfl, by simp only; omega, by simp only; omega⟩, ?_⟩
    · simp only; omega
    · (apply Go.Ab.V.G.weak; constructor <;> simp (config := {decide := true}) only [PT.Le, inV, mkB, PT.set, VSt.kill, VSt.adopt, VSt.alloc, PT.filt, PT.map, List.map_cons, List.map_nil, noref, norefB, deadB, deadV, nos, nm, nmL, nmB, nmE, Pa.eqb, cond_true, cond_false, Bool.not_true, Bool.not_false, Bool.and_true, Bool.true_and, nmL_vi, flV_len, flP_len, flV_nm, flV_ok, flV_pv, flP_map, drop_flP, drop_flV, putC_flV, eqV2, eqV3, bneT, bneF, decide_true, decide_false, frzL_vi, frzL_flV, nmE_ag, nmE_at, frzE_ag, frzE_at, ofAg_len, ofAt_len, atL_vi, nmL_map_p, frzL_map_p, okL_p, toPVs_p, repsZ, nmL_reps, putC_vi, get_flV0, get_flV1, Int.toNat_zero, Int.toNat_one, Int.reduceToNat, eqV_slice, eqV_ptr, eqV_func, nilS, nilP, nilF, nmL_append, true_or, or_true, and_self, true_and, and_true, Option.some.injEq, reduceCtorEq, false_or, or_false, VV.p.injEq, PV.at.injEq, Value.int.injEq, sl1, vi, bl1, vb, nilV, sl1, hset])
      (all_goals first | rfl | omega | exact ⟨rfl, by omega⟩)
  clear h
  (repeat (first | refine VC.seq ?_ | refine VC.block ?_ | refine VC.kill ?_ | refine VC.skip ?_ | refine VC.exit ?_ | refine VC.regA ?_ | refine VC.condT ?_ | refine VC.condF ?_))
  refine VC.loopG (fun (q : List Int × Nat) => ⟨inV [p5, p6, p7, p8, p10, p11, p12, p13, p14, p15, p17] [sl1 x, sl1 a, sl1 x, sl1 a, vi 0, .os 1 p5 q.1.length, vi 0, vi 0, .os 1 p23 A.length, vi 0, vi q.2] .lf, mkB [(p5, .cells (q.1.map vi)), (p23, .cells (A.map vi))] .lf, [], none⟩) (fun n q => n = q.1.length - q.2 ∧ q.2 ≤ q.1.length ∧ q.1.length ≤ 4) (x := (a, 0)) ?_ ⟨rfl, Nat.zero_le _, by simp only; omega⟩ ?_
  · (apply Go.Ab.V.G.weak; constructor <;> simp (config := {decide := true}) only [PT.Le, inV, mkB, PT.set, VSt.kill, VSt.adopt, VSt.alloc, PT.filt, PT.map, List.map_cons, List.map_nil, noref, norefB, deadB, deadV, nos, nm, nmL, nmB, nmE, Pa.eqb, cond_true, cond_false, Bool.not_true, Bool.not_false, Bool.and_true, Bool.true_and, nmL_vi, flV_len, flP_len, flV_nm, flV_ok, flV_pv, flP_map, drop_flP, drop_flV, putC_flV, eqV2, eqV3, bneT, bneF, decide_true, decide_false, frzL_vi, frzL_flV, nmE_ag, nmE_at, frzE_ag, frzE_at, ofAg_len, ofAt_len, atL_vi, nmL_map_p, frzL_map_p, okL_p, toPVs_p, repsZ, nmL_reps, putC_vi, get_flV0, get_flV1, Int.toNat_zero, Int.toNat_one, Int.reduceToNat, eqV_slice, eqV_ptr, eqV_func, nilS, nilP, nilF, nmL_append, true_or, or_true, and_self, true_and, and_true, Option.some.injEq, reduceCtorEq, false_or, or_false, VV.p.injEq, PV.at.injEq, Value.int.injEq, sl1, vi, bl1, vb, nilV, sl1])
    (all_goals first | rfl | omega | exact ⟨rfl, by omega⟩)
  rintro n ⟨b, k⟩ ⟨hn, hk, h4⟩
  simp only at hn hk h4
  simp only [inV, PT.set, mkB]
  (repeat (first | refine VC.seq ?_ | refine VC.block ?_ | refine VC.kill ?_ | refine VC.skip ?_ | refine VC.exit ?_ | refine VC.regA ?_ | refine VC.condT ?_ | refine VC.condF ?_))
  refine VC.condA ?_ ?_ <;> intro h <;> (simp only [decide_eq_true_eq, decide_eq_false_iff_not, bne_iff_ne, ne_eq, bne_eq_false_iff_eq, beq_iff_eq, beq_eq_false_iff_ne, Bool.not_eq_true', Bool.not_eq_false', Bool.and_eq_true, Bool.or_eq_true, Int.natCast_inj] at h)
  · have h : k < b.length := by omega
    have hset : (b.set k (-7)).length = b.length := List.length_set ..
    have hp := putC_map b k (-7) h
    simp only [vi] at hp
    (repeat (first | refine VC.seq ?_ | refine VC.block ?_ | refine VC.kill ?_ | refine VC.skip ?_ | refine VC.exit ?_ | refine VC.regA ?_ | refine VC.condT ?_ | refine VC.condF ?_))
    refine ⟨_, (b.set k (-7), k + 1), ?_, ⟨rfl, by simp only; omega, by simp only; omega⟩, ?_⟩
    · simp only; omega
    · (apply Go.Ab.V.G.weak; constructor <;> simp (config := {decide := true}) only [PT.Le, inV, mkB, PT.set, VSt.kill, VSt.adopt, VSt.alloc, PT.filt, PT.map, List.map_cons, List.map_nil, noref, norefB, deadB, deadV, nos, nm, nmL, nmB, nmE, Pa.eqb, cond_true, cond_false, Bool.not_true, Bool.not_false, Bool.and_true, Bool.true_and, nmL_vi, flV_len, flP_len, flV_nm, flV_ok, flV_pv, flP_map, drop_flP, drop_flV, putC_flV, eqV2, eqV3, bneT, bneF, decide_true, decide_false, frzL_vi, frzL_flV, nmE_ag, nmE_at, frzE_ag, frzE_at, ofAg_len, ofAt_len, atL_vi, nmL_map_p, frzL_map_p, okL_p, toPVs_p, repsZ, nmL_reps, putC_vi, get_flV0, get_flV1, Int.toNat_zero, Int.toNat_one, Int.reduceToNat, eqV_slice, eqV_ptr, eqV_func, nilS, nilP, nilF, nmL_append, true_or, or_true, and_self, true_and, and_true, Option.some.injEq, reduceCtorEq, false_or, or_false, VV.p.injEq, PV.at.injEq, Value.int.injEq, sl1, vi, bl1, vb, nilV, sl1, hset, hp])
      (all_goals first | rfl | omega | exact ⟨rfl, by omega⟩)
  clear h
  (repeat (first | refine VC.seq ?_ | refine VC.block ?_ | refine VC.kill ?_ | refine VC.skip ?_ | refine VC.exit ?_ | refine VC.regA ?_ | refine VC.condT ?_ | refine VC.condF ?_))
  refine VC.loopG (fun (q : List Int × Nat) => ⟨inV [p5, p6, p7, p8, p10, p12, p13, p14, p15, p18] [sl1 x, sl1 a, sl1 x, sl1 a, vi 0, vi 0, vi 0, .os 1 p23 q.1.length, vi 0, vi q.2] .lf, mkB [(p23, .cells (q.1.map vi))] .lf, [], none⟩) (fun n q => n = q.1.length - q.2 ∧ q.2 ≤ q.1.length ∧ q.1.length ≤ 13) (x := (A, 0)) ?_ ⟨rfl, Nat.zero_le _, hal⟩ ?_
  · (apply Go.Ab.V.G.weak; constructor <;> simp (config := {decide := true}) only [PT.Le, inV, mkB, PT.set, VSt.kill, VSt.adopt, VSt.alloc, PT.filt, PT.map, List.map_cons, List.map_nil, noref, norefB, deadB, deadV, nos, nm, nmL, nmB, nmE, Pa.eqb, cond_true, cond_false, Bool.not_true, Bool.not_false, Bool.and_true, Bool.true_and, nmL_vi, flV_len, flP_len, flV_nm, flV_ok, flV_pv, flP_map, drop_flP, drop_flV, putC_flV, eqV2, eqV3, bneT, bneF, decide_true, decide_false, frzL_vi, frzL_flV, nmE_ag, nmE_at, frzE_ag, frzE_at, ofAg_len, ofAt_len, atL_vi, nmL_map_p, frzL_map_p, okL_p, toPVs_p, repsZ, nmL_reps, putC_vi, get_flV0, get_flV1, Int.toNat_zero, Int.toNat_one, Int.reduceToNat, eqV_slice, eqV_ptr, eqV_func, nilS, nilP, nilF, nmL_append, true_or, or_true, and_self, true_and, and_true, Option.some.injEq, reduceCtorEq, false_or, or_false, VV.p.injEq, PV.at.injEq, Value.int.injEq, sl1, vi, bl1, vb, nilV, sl1])
    (all_goals first | rfl | omega | exact ⟨rfl, by omega⟩)
  rintro n ⟨b, k⟩ ⟨hn, hk, h4⟩
  simp only at hn hk h4
  simp only [inV, PT.set, mkB]
  (repeat (first | refine VC.seq ?_ | refine VC.block ?_ | refine VC.kill ?_ | refine VC.skip ?_ | refine VC.exit ?_ | refine VC.regA ?_ | refine VC.condT ?_ | refine VC.condF ?_))
  refine VC.condA ?_ ?_ <;> intro h <;> (simp only [decide_eq_true_eq, decide_eq_false_iff_not, bne_iff_ne, ne_eq, bne_eq_false_iff_eq, beq_iff_eq, beq_eq_false_iff_ne, Bool.not_eq_true', Bool.not_eq_false', Bool.and_eq_true, Bool.or_eq_true, Int.natCast_inj] at h)
  · have h : k < b.length := by omega
    have hset : (b.set k (-7)).length = b.length := List.length_set ..
    have hp := putC_map b k (-7) h
    simp only [vi] at hp
    (repeat (first | refine VC.seq ?_ | refine VC.block ?_ | refine VC.kill ?_ | refine VC.skip ?_ | refine VC.exit ?_ | refine VC.regA ?_ | refine VC.condT ?_ | refine VC.condF ?_))
    refine ⟨_, (b.set k (-7), k + 1), ?_, ⟨rfl, by simp only; omega, by simp only; omega⟩, ?_⟩
    · simp only; omega
    · (apply Go.Ab.V.G.weak; constructor <;> simp (config := {decide := true}) only [PT.Le, inV, mkB, PT.set, VSt.kill, VSt.adopt, VSt.alloc, PT.filt, PT.map, List.map_cons, List.map_nil, noref, norefB, deadB, deadV, nos, nm, nmL, nmB, nmE, Pa.eqb, cond_true, cond_false, Bool.not_true, Bool.not_false, Bool.and_true, Bool.true_and, nmL_vi, flV_len, flP_len, flV_nm, flV_ok, flV_pv, flP_map, drop_flP, drop_flV, putC_flV, eqV2, eqV3, bneT, bneF, decide_true, decide_false, frzL_vi, frzL_flV, nmE_ag, nmE_at, frzE_ag, frzE_at, ofAg_len, ofAt_len, atL_vi, nmL_map_p, frzL_map_p, okL_p, toPVs_p, repsZ, nmL_reps, putC_vi, get_flV0, get_flV1, Int.toNat_zero, Int.toNat_one, Int.reduceToNat, eqV_slice, eqV_ptr, eqV_func, nilS, nilP, nilF, nmL_append, true_or, or_true, and_self, true_and, and_true, Option.some.injEq, reduceCtorEq, false_or, or_false, VV.p.injEq, PV.at.injEq, Value.int.injEq, sl1, vi, bl1, vb, nilV, sl1, hset, hp])
      (all_goals first | rfl | omega | exact ⟨rfl, by omega⟩)
  clear h
  (repeat (first | refine VC.seq ?_ | refine VC.block ?_ | refine VC.kill ?_ | refine VC.skip ?_ | refine VC.exit ?_ | refine VC.regA ?_ | refine VC.condT ?_ | refine VC.condF ?_))
  (refine VC.regCA ?_; refine VO.moreA ?_; refine VO.call0A (no_orc _ (by decide)) k8 ?_; refine VO.endA ?_; (repeat (first | refine VC.seq ?_ | refine VC.block ?_ | refine VC.kill ?_ | refine VC.skip ?_ | refine VC.exit ?_ | refine VC.regA ?_ | refine VC.condT ?_ | refine VC.condF ?_)))
  have hw : decide (A[0] = 0) = true := by rw [haz]; rfl
  refine VC.regCA ?_
  refine VO.moreA ?_
  refine VO.call0A (no_orc 33 (by decide)) k9 ?_
  refine VO.moreA ?_
  refine VO.call0A (no_orc 33 (by decide)) k10 ?_
  refine VO.moreA ?_
  refine VO.knownA (.bool true) rfl ?_
  refine VO.endA ?_
  (repeat (first | refine VC.seq ?_ | refine VC.block ?_ | refine VC.kill ?_ | refine VC.skip ?_ | refine VC.exit ?_ | refine VC.regA ?_ | refine VC.condT ?_ | refine VC.condF ?_))
  exact VC.ret (Fin.A rfl)
end Go.Ab.Jug

namespace Go.Proofs.Ytcbhobkfffgfdaa.jugOwn
open Go.ChangeShapes Go.WideShapes Go.ChangeAt Go.RowKit
open Go.ChangeMaps (open_string shut_string)
open Go.Ab Go.Ab.V Go.Ab.Jug
set_option linter.unusedVariables false
theorem own : ownKnob Try.prog.godebug = none := by kernel_rfl
theorem laidOut : laidOutB Try.prog = true := by kernel_rfl
theorem orc : OrcOK Try.prog cfg := orcOK mixed tab0 (fun h => by cases h) rfl awake_closed
theorem tab : TabOK Try.prog cfg := tab0
set_option maxRecDepth 100000 in
theorem lifted (os : Os) (started : os.Started) (H : Type) (enc : TypeId × Value → H) :
    ReturnsInHanded {} Try.checked os 13 .any (Rows.jugOwnSpec.pre6 enc Try.prog Try.f13 Rows.jugOwnRow.domain false) (Rows.jugOwnSpec.post enc Try.prog Try.f13 false true false false) := by
  refine returnsInHanded_of_change (C := Try.checked) own started (by kernel_rfl) Try.func13
    (ChangeSpec.witness6 (enc := enc) (C := Try.checked) false ⟨#[], #[.slice none 0 0, .slice none 0 0], []⟩ 8 (by kernel_rfl) (by kernel_rfl) (by kernel_rfl) (by kernel_rfl)) ?_
  intro W base args ds gs before hval0 hW hcnd _
  have hval : ∀ (j : Nat) t v, Try.f13.params[j]? = some t → args[j]? = some v → Value.okWide Try.prog W .any base t v := hval0
  have hW' := hW
  obtain ⟨p, q, hA0, hV, rfl, hfz, hnd⟩ := hW
  have hA : DataW.TrodAll enc Try.prog W 0 (fun _ => true) true Try.f13.params.toList args.toList ds p := hA0
  rw [Try.params13] at hA hval
  obtain ⟨v0, vs0, d0, ds0, p0, q0, hargs, rfl, rfl, h0, r0⟩ := trodAll_cons hA
  obtain ⟨v1, vs1, d1, ds1, p1, q1, rfl, rfl, rfl, h1, r1⟩ := trodAll_cons r0
  obtain ⟨rfl, rfl, rfl⟩ := trodAll_nil r1
  obtain rfl : args = #[v0, v1] := by cases args; simp_all
  obtain ⟨rfl, rfl⟩ := trodVars_none hV
  obtain ⟨a0, len0, cap0, rfl⟩ := okWide_slice Try.underlying22 (hval 0 22 v0 rfl rfl)
  have k0 := h0
  have lt0 : ∀ x ∈ p0, x.block < W.heap.size := by obtain ⟨m, hm⟩ := k0; exact DataW.trod_lt m _ _ _ hm
  obtain ⟨z0, w0⟩ : ∃ zs, V.IsRow .i64 W a0 len0 cap0 zs := by
    obtain ⟨fuel, hf⟩ := h0
    rcases open_ints Try.underlying22 Try.underlying3 (by kernel_rfl) hf with ⟨hcs, _⟩ | ⟨x, l, c, zs, hcs, _, hl, hm, hz, _, hcell, hwz⟩
    · simp [Value.cells] at hcs
      obtain ⟨rfl, rfl, rfl⟩ := hcs
      exact ⟨[], .inl ⟨rfl, rfl, rfl, rfl⟩⟩
    · simp [Value.cells] at hcs
      obtain ⟨rfl, rfl, rfl⟩ := hcs
      exact ⟨zs, .inr ⟨_, rfl, hl, hm, by simpa using hz, hcell, hwz⟩⟩
  obtain ⟨av0, ar0, ap0, al0⟩ := arg_ints w0
  obtain ⟨a1, len1, cap1, rfl⟩ := okWide_slice Try.underlying22 (hval 1 22 v1 rfl rfl)
  have k1 := h1
  have lt1 : ∀ x ∈ p1, x.block < W.heap.size := by obtain ⟨m, hm⟩ := k1; exact DataW.trod_lt m _ _ _ hm
  obtain ⟨z1, w1⟩ : ∃ zs, V.IsRow .i64 W a1 len1 cap1 zs := by
    obtain ⟨fuel, hf⟩ := h1
    rcases open_ints Try.underlying22 Try.underlying3 (by kernel_rfl) hf with ⟨hcs, _⟩ | ⟨x, l, c, zs, hcs, _, hl, hm, hz, _, hcell, hwz⟩
    · simp [Value.cells] at hcs
      obtain ⟨rfl, rfl, rfl⟩ := hcs
      exact ⟨[], .inl ⟨rfl, rfl, rfl, rfl⟩⟩
    · simp [Value.cells] at hcs
      obtain ⟨rfl, rfl, rfl⟩ := hcs
      exact ⟨zs, .inr ⟨_, rfl, hl, hm, by simpa using hz, hcell, hwz⟩⟩
  obtain ⟨av1, ar1, ap1, al1⟩ := arg_ints w1
  clear hA0 hval0
  refine (calls_true mixed tab orc (own_law _ _ al0 al1) (All2.cons ap0 (All2.cons ap1 .nil)) (LR.cons ar0 (LR.cons ar1 (LR.nil _)))).mono fun e W' ⟨he, bel⟩ => ?_
  subst he
  exact ⟨_, rfl, _, _, _, [], _, [], hW', trodAll_mk1 (shut_bool Try.underlying4 _), (trodAll_cons_mk (Below.trod laidOut (by kernel_rfl) (of_decide_eq_true (by kernel_rfl)) k0 bel lt0) (trodAll_cons_mk (Below.trod laidOut (by kernel_rfl) (of_decide_eq_true (by kernel_rfl)) k1 bel lt1) trodAll_mk0)), rfl, bel.frame _, fun h => by cases h⟩
theorem over : Rows.jugOwnRow.holds Try.pinned (OpenSpec.ofChange Rows.jugOwnSpec) :=
  OpenClaim.holds_of_wide 13 Try.f13 rfl rfl rfl rfl rfl rfl rfl ⟨rfl, rfl, rfl, rfl, rfl⟩ rfl rfl rfl rfl rfl (by kernel_rfl) Try.func13 (by kernel_rfl)
    (of_decide_eq_true (by kernel_rfl)) (by unfold Func.isWrapper; first | (rw [if_pos (by decide +kernel)]; kernel_rfl) | (rw [if_neg (by decide +kernel)]; exact ⟨rfl, rfl⟩))
    (fun os started H enc _ => lifted os started H enc)
theorem proved : Rows.JugOwnSaid := over
end Go.Proofs.Ytcbhobkfffgfdaa.jugOwn
namespace Go.Proofs.Ytcbhobkfffgfdaa
/-- The row, under a short name, for the claim. -/
theorem jugOwn_holds : Rows.JugOwnSaid := jugOwn.proved
end Go.Proofs.Ytcbhobkfffgfdaa
