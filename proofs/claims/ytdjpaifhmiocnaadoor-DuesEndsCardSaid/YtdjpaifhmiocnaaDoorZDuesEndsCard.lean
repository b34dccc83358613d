/- Proved: for every input the law DuesEnds returns true, and each argument reads afterwards as it read before. The card says it where the package variables that the law reads hold what their initialization left. -/
import Derived.Test.YtdjpaifhmiocnaaDoorRows
import Derived.WalkKit
import Derived.ProofKit
import Derived.OpenShut
import Derived.ShutString
import Derived.ChangeOld
import Derived.Below
import Derived.Carry
import Derived.Test.YtdjpaifhmiocnaaDoorCards
import Derived.Test.YtdjpaifhmiocnaaDoorTie
import Derived.SevenTiedAt
import Derived.Handed
import Derived.Test.YtdjpaifhmiocnaaDoorA04
set_option linter.unusedSimpArgs false
set_option linter.unusedVariables false
namespace Go.Ab.Dues
open Go.Ab.V
set_option maxRecDepth 100000
end Go.Ab.Dues

namespace Go.Ab.Dues
open Go.Ab.V
set_option maxRecDepth 100000
def bitsTo (S i : Nat) : List Nat := (List.range i).filter fun k => S.testBit k
theorem bitsTo_succ (S i : Nat) : bitsTo S (i + 1) = if S.testBit i = true then bitsTo S i ++ [i] else bitsTo S i := by
  unfold bitsTo
  rw [List.range_succ, List.filter_append, List.filter_cons]
  split <;> simp
theorem bitsTo_end {S i : Nat} (h : S < 2 ^ i) (hi : i ≤ 10) : bitsTo S i = bitsN S := by
  have : ∀ k, k ≤ 10 - i → bitsTo S (i + k) = bitsTo S i := by
    intro k
    induction k with
    | zero => intro _; rfl
    | succ k ih =>
      intro hk
      rw [show i + (k + 1) = (i + k) + 1 from rfl, bitsTo_succ, if_neg, ih (by omega)]
      rw [Nat.testBit_lt_two_pow (Nat.lt_of_lt_of_le h (Nat.pow_le_pow_right (by decide) (by omega)))]; simp
  have := this (10 - i) (Nat.le_refl _)
  rw [show i + (10 - i) = 10 from by omega] at this
  rw [← this]; rfl
theorem bitsTo_len (S i : Nat) : (bitsTo S i).length ≤ i := by
  unfold bitsTo
  have := List.length_filter_le (fun k => S.testBit k) (List.range i)
  rw [List.length_range] at this; exact this
theorem bit_mod (a p : Nat) : (a >>> p) % 2 = if a.testBit p = true then 1 else 0 := by
  rw [← Nat.and_one_is_mod, bit_and]
theorem fdivI {a : Nat} {p : Nat} (hp : p < 64) : ((a : Nat) : Int).fdiv (2 ^ min ((p : Int)).toNat IntKind.i64.bits) = ((a >>> p : Nat) : Int) := by
  have e : ((2 : Int) ^ p) = ((2 ^ p : Nat) : Int) := by simp
  rw [bits_i64, Int.toNat_natCast, Nat.min_eq_left (by omega), e, Int.fdiv_eq_ediv_of_nonneg _ (Int.natCast_nonneg _), ← Int.natCast_ediv, Nat.shiftRight_eq_div_pow]
theorem canNeed {c : Can} {s : Nat} (hs : s < c.ships.length) : c.ships.getD s (-1) = c.ships[s] := by rw [List.getD_eq_getElem?_getD, List.getElem?_eq_getElem hs]; rfl
theorem shl_w {q : Nat} (h : q < 62) : IntKind.i64.wrap (1 * 2 ^ min q IntKind.i64.bits) = ((2 ^ q : Nat) : Int) := by
  have := shl_one h
  unfold shlA at this
  rw [if_neg (by omega), Int.toNat_natCast] at this
  injection this with this
  injection this
set_option maxHeartbeats 4000000 in
theorem RNeeds_ok (c : Can) (h : okC c) (s : Nat) (hs : s < c.ships.length) : VCall cfg 34 [canV c, vi s] [] [] (vi (ch c (c.ships.getD s (-1)) : Nat)) [] := by
  rw [canNeed hs]
  have hsh := h.ship _ (List.getElem_mem hs)
  have h10 := h.n10
  have h7 := h.s7
  generalize hp0 : c.ships[s] = p0 at *
  unfold canV
  (refine VCall.mk (fn := a34) rfl rfl rfl ?_; simp only [a34, inV, mkB, nmsL, PT.set])
  (repeat (first | refine VC.seq ?_ | refine VC.block ?_ | refine VC.kill ?_ | refine VC.skip ?_ | refine VC.exit ?_ | refine VC.regA ?_ | refine VC.condT ?_ | refine VC.condF ?_))
  simp only [hp0]
  refine VC.loopG (fun (q : Nat × Int) => ⟨inV [p2, p5, p6] [.op 0 p2 0, vi (q.1 : Nat), vi q.2] .lf, mkB [(p2, .cells [sl1 c.up, sl1 c.cost, sl1 c.ships])] .lf, [], none⟩) (fun n q => n = (q.2 + 1).toNat ∧ -1 ≤ q.2 ∧ q.2 < c.up.length ∧ q.1 < 1024 ∧ q.1 ||| ch c q.2 = ch c p0) (x := (0, p0)) ?_ ⟨rfl, by simp only; omega, hsh.2, by simp, by simp⟩ ?_
  · (apply Go.Ab.V.G.weak; constructor <;> simp (config := {decide := true}) only [PT.Le, inV, mkB, PT.set, VSt.kill, VSt.adopt, VSt.alloc, PT.filt, PT.map, List.map_cons, List.map_nil, noref, norefB, deadB, deadV, nos, nm, nmL, nmB, nmE, Pa.eqb, cond_true, cond_false, Bool.not_true, Bool.not_false, Bool.and_true, Bool.true_and, nmL_vi, flV_len, flP_len, flV_nm, flV_ok, flV_pv, flP_map, drop_flP, drop_flV, putC_flV, eqV2, eqV3, bneT, bneF, decide_true, decide_false, frzL_vi, frzL_flV, nmE_ag, nmE_at, frzE_ag, frzE_at, ofAg_len, ofAt_len, atL_vi, nmL_map_p, frzL_map_p, okL_p, toPVs_p, repsZ, nmL_reps, putC_vi, get_flV0, get_flV1, Int.toNat_zero, Int.toNat_one, Int.reduceToNat, eqV_slice, eqV_ptr, eqV_func, nilS, nilP, nilF, nmL_append, true_or, or_true, and_self, true_and, and_true, Option.some.injEq, reduceCtorEq, false_or, or_false, VV.p.injEq, PV.at.injEq, Value.int.injEq, sl1, vi, bl1, vb, nilV, sl1])
    (all_goals first | rfl | omega | exact ⟨rfl, by omega⟩)
  rintro n' ⟨acc, p⟩ ⟨hn', hp0', hp1, hacc, hor⟩
  simp only at hn' hp0' hp1 hacc hor
  simp only [inV, PT.set, mkB]
  (repeat (first | refine VC.seq ?_ | refine VC.block ?_ | refine VC.kill ?_ | refine VC.skip ?_ | refine VC.exit ?_ | refine VC.regA ?_ | refine VC.condT ?_ | refine VC.condF ?_))
  refine VC.condA ?_ ?_ <;> intro h2 <;> (simp only [decide_eq_true_eq, decide_eq_false_iff_not, bne_iff_ne, ne_eq, bne_eq_false_iff_eq, beq_iff_eq, beq_eq_false_iff_ne, Bool.not_eq_true', Bool.not_eq_false', Bool.and_eq_true, Bool.or_eq_true, Int.natCast_inj] at h2)
  · obtain ⟨q, rfl⟩ := Int.eq_ofNat_of_zero_le h2
    have hq : q < c.up.length := by omega
    have hu := up_get h hq
    rw [List.getD_eq_getElem?_getD, List.getElem?_eq_getElem hq, Option.getD_some] at hu
    have hstep := ch_step h hq
    have hsh1 := shl_one (n := q) (by omega)
    have hp10 : 2 ^ q < 1024 := Nat.pow_lt_pow_right (n := 10) (by decide) (by omega)
    have hor1 := or_i64 (a := acc) (b := 2 ^ q) (by omega) (by omega)
    (repeat (first | refine VC.seq ?_ | refine VC.block ?_ | refine VC.kill ?_ | refine VC.skip ?_ | refine VC.exit ?_ | refine VC.regA ?_ | refine VC.condT ?_ | refine VC.condF ?_))
    ((try (apply VC.regU; · ((simp (config := {decide := false, maxSteps := 1000000}) (disch := omega) only [vev_call, putC_c0, putC_n0, putC_cs, ble0, List.getElem?_cons_zero, List.getElem?_cons_succ, runU, isCall, wantV, vev, evV, ofVal, ofAtom, atomB, cond_true, cond_false, PT.get, PT.set, PT.filt, PT.map, Option.getD_some, Option.getD_none, ret1V, ret1X, v_ld, v_ias, v_iad, v_fad, v_slsl, v_slarr, v_st, v_app, v_cpy, v_clr, v_len, v_look, v_mset, elsV, partV, newV, free, atV, atI, atL, toVal, cellsV, okV, VSt.put, VSt.kill, VSt.alloc, VSt.frz, VSt.adopt, noref, norefB, deadB, deadV, nos, nm, nmL, nmB, nmE, Pa.eqb, Bool.not_false, Bool.not_true, Bool.and_true, Bool.true_and, Bool.false_and, Bool.and_false, bin, intOps, intBin, cvt, un, goInt, bndsV, bndV, Option.map_some, Option.map_none, List.map_cons, List.map_nil, Int.toNat_natCast, Nat.mul_one, Nat.zero_add, beq_true, beq_false, beq_self_eq_true, List.length_map, List.length_cons, List.length_nil, List.length_append, fillV, pEvV, repsV, List.append_nil, List.nil_append, if_pos, if_neg, reduceIte, List.getElem?_map, List.getElem?_drop, Nat.add_zero, List.getElem?_eq_getElem, Go.IntWalk.i64_in, wrap_u64, tmod_pos, eq_self, true_and, and_true, and_self, List.all_cons, List.all_nil, nmL_vi, flV_len, flP_len, flV_nm, flV_ok, flV_pv, flP_map, drop_flP, drop_flV, putC_flV, eqV2, eqV3, bneT, bneF, decide_true, decide_false, frzL_vi, frzL_flV, nmE_ag, nmE_at, frzE_ag, frzE_at, ofAg_len, ofAt_len, atL_vi, nmL_map_p, frzL_map_p, okL_p, toPVs_p, repsZ, nmL_reps, putC_vi, get_flV0, get_flV1, Int.toNat_zero, Int.toNat_one, Int.reduceToNat, eqV_slice, eqV_ptr, eqV_func, nilS, nilP, nilF, nmL_append, okL_vi, toPVs_vi, toPVs, toPV, frzV, frzL, frzB, resVV, vi, vb, nilV, sl1, bl1, pi, foldV, max2, min2, max_eq, min_eq, Int.tdiv_eq_ediv_of_nonneg, Int.cast_ofNat_Int, Option.isSome_none, Option.isSome_some, Option.isNone_none, Option.isNone_some, and_false, false_and, sl2, sl1P, slP, min_cast, take_map_pi, map_pi, Nat.sub_zero, Nat.zero_mul, List.length_take, decide_eq_true, decide_eq_false, Bool.true_eq_false, Bool.false_eq_true, beqT, beqF, ibeq, ibne, List.take_zero, List.take_succ_cons, List.drop_zero, List.drop_succ_cons, List.drop_nil, List.take_nil, List.cons_append, Bool.not_true, Bool.not_false, hsh1, hor1]); rfl))); (repeat (first | refine VC.seq ?_ | refine VC.block ?_ | refine VC.kill ?_ | refine VC.skip ?_ | refine VC.exit ?_ | refine VC.regA ?_ | refine VC.condT ?_ | refine VC.condF ?_)))
    refine ⟨_, (acc ||| 2 ^ q, c.up[q]), ?_, ⟨rfl, by simp only; omega, by simp only; omega, or_lt (m := 10) hacc hp10, ?_⟩, ?_⟩
    · simp only; omega
    · simp only
      rw [← hor, hstep, Nat.or_assoc]
    · (apply Go.Ab.V.G.weak; constructor <;> simp (config := {decide := true}) only [PT.Le, inV, mkB, PT.set, VSt.kill, VSt.adopt, VSt.alloc, PT.filt, PT.map, List.map_cons, List.map_nil, noref, norefB, deadB, deadV, nos, nm, nmL, nmB, nmE, Pa.eqb, cond_true, cond_false, Bool.not_true, Bool.not_false, Bool.and_true, Bool.true_and, nmL_vi, flV_len, flP_len, flV_nm, flV_ok, flV_pv, flP_map, drop_flP, drop_flV, putC_flV, eqV2, eqV3, bneT, bneF, decide_true, decide_false, frzL_vi, frzL_flV, nmE_ag, nmE_at, frzE_ag, frzE_at, ofAg_len, ofAt_len, atL_vi, nmL_map_p, frzL_map_p, okL_p, toPVs_p, repsZ, nmL_reps, putC_vi, get_flV0, get_flV1, Int.toNat_zero, Int.toNat_one, Int.reduceToNat, eqV_slice, eqV_ptr, eqV_func, nilS, nilP, nilF, nmL_append, true_or, or_true, and_self, true_and, and_true, Option.some.injEq, reduceCtorEq, false_or, or_false, VV.p.injEq, PV.at.injEq, Value.int.injEq, sl1, vi, bl1, vb, nilV, sl1])
      · rw [shl_w (by omega), hor1]
  · have h2 : p = -1 := by omega
    subst h2
    rw [ch_neg (by omega), Nat.or_zero] at hor
    subst hor
    (repeat (first | refine VC.seq ?_ | refine VC.block ?_ | refine VC.kill ?_ | refine VC.skip ?_ | refine VC.exit ?_ | refine VC.regA ?_ | refine VC.condT ?_ | refine VC.condF ?_))
    exact VC.ret (Fin.A rfl)
end Go.Ab.Dues

namespace Go.Ab.Dues
open Go.Ab.V
set_option maxRecDepth 100000
theorem sumL_snoc (l : List Int) (x : Int) : sumL (l ++ [x]) = sumL l + x := by unfold sumL; rw [List.foldl_append]; rfl
def psum (c : Can) (P i : Nat) : Int := sumL ((bitsTo P i).map fun p => c.cost.getD p 0)
theorem psum_bd {c : Can} (h : okC c) (P i : Nat) (hi : i ≤ 10) : 0 ≤ psum c P i ∧ psum c P i ≤ 10000 := by
  have := sumL_pos ((bitsTo P i).map fun p => c.cost.getD p 0) 1000 (fun x hx => by
    obtain ⟨p, _, rfl⟩ := List.mem_map.1 hx
    exact cost_getD h p)
  rw [List.length_map] at this
  have hl := bitsTo_len P i
  have h2 : (bitsTo P i).length * 1000 ≤ 10 * 1000 := Nat.mul_le_mul_right _ (by omega)
  unfold psum
  omega
set_option maxHeartbeats 4000000 in
theorem RCost_ok (c : Can) (h : okC c) (P : Nat) (hP : P < 2 ^ c.cost.length) : VCall cfg 60 [canV c, vi P] [] [] (vi (costP c.cost P)) [] := by
  have h10 := h.n10
  have hcl := h.cl
  have hend : psum c P c.cost.length = costP c.cost P := by unfold psum costP; rw [bitsTo_end hP (by omega)]
  unfold canV
  (refine VCall.mk (fn := a60) rfl rfl rfl ?_; simp only [a60, inV, mkB, nmsL, PT.set])
  (repeat (first | refine VC.seq ?_ | refine VC.block ?_ | refine VC.kill ?_ | refine VC.skip ?_ | refine VC.exit ?_ | refine VC.regA ?_ | refine VC.condT ?_ | refine VC.condF ?_))
  refine VC.loopG (fun (i : Nat) => ⟨inV [p1, p2, p5, p6] [vi P, .op 0 p2 0, vi (psum c P i), vi i] .lf, mkB [(p2, .cells [sl1 c.up, sl1 c.cost, sl1 c.ships])] .lf, [], none⟩) (fun n i => n = c.cost.length - i ∧ i ≤ c.cost.length) (x := 0) ?_ ⟨rfl, Nat.zero_le _⟩ ?_
  · have : psum c P 0 = 0 := rfl
    (apply Go.Ab.V.G.weak; constructor <;> simp (config := {decide := true}) only [PT.Le, inV, mkB, PT.set, VSt.kill, VSt.adopt, VSt.alloc, PT.filt, PT.map, List.map_cons, List.map_nil, noref, norefB, deadB, deadV, nos, nm, nmL, nmB, nmE, Pa.eqb, cond_true, cond_false, Bool.not_true, Bool.not_false, Bool.and_true, Bool.true_and, nmL_vi, flV_len, flP_len, flV_nm, flV_ok, flV_pv, flP_map, drop_flP, drop_flV, putC_flV, eqV2, eqV3, bneT, bneF, decide_true, decide_false, frzL_vi, frzL_flV, nmE_ag, nmE_at, frzE_ag, frzE_at, ofAg_len, ofAt_len, atL_vi, nmL_map_p, frzL_map_p, okL_p, toPVs_p, repsZ, nmL_reps, putC_vi, get_flV0, get_flV1, Int.toNat_zero, Int.toNat_one, Int.reduceToNat, eqV_slice, eqV_ptr, eqV_func, nilS, nilP, nilF, nmL_append, true_or, or_true, and_self, true_and, and_true, Option.some.injEq, reduceCtorEq, false_or, or_false, VV.p.injEq, PV.at.injEq, Value.int.injEq, sl1, vi, bl1, vb, nilV, sl1, this])
    (all_goals first | rfl | omega | exact ⟨rfl, by omega⟩)
  rintro n i ⟨hn, hi⟩
  simp only [inV, PT.set, mkB]
  have hb := psum_bd h P i (by omega)
  have hfin : i = c.cost.length → psum c P i = costP c.cost P := fun e => by rw [e, hend]
  have hps : psum c P (i + 1) = psum c P i + (if P.testBit i = true then c.cost.getD i 0 else 0) := by
    unfold psum
    rw [bitsTo_succ]
    split
    · rw [List.map_append, List.map_cons, List.map_nil, sumL_snoc]
    · omega
  generalize psum c P i = u at *
  (repeat (first | refine VC.seq ?_ | refine VC.block ?_ | refine VC.kill ?_ | refine VC.skip ?_ | refine VC.exit ?_ | refine VC.regA ?_ | refine VC.condT ?_ | refine VC.condF ?_))
  refine VC.condA ?_ ?_ <;> intro h' <;> (simp only [decide_eq_true_eq, decide_eq_false_iff_not, bne_iff_ne, ne_eq, bne_eq_false_iff_eq, beq_iff_eq, beq_eq_false_iff_ne, Bool.not_eq_true', Bool.not_eq_false', Bool.and_eq_true, Bool.or_eq_true, Int.natCast_inj] at h')
  · have h' : i < c.cost.length := by omega
    have hci := h.cost i h'
    have hgd : c.cost.getD i 0 = c.cost[i] := by rw [List.getD_eq_getElem?_getD, List.getElem?_eq_getElem h']; rfl
    rw [hgd] at hps
    have hsr := shr_i64 (a := P) (n := i) (by omega)
    have hbm := bit_mod P i
    generalize hw : P >>> i = w at *
    have htm : (w : Int).tmod 2 = ((w % 2 : Nat) : Int) := by rw [Int.tmod_eq_emod_of_nonneg (by omega)]; omega
    generalize hcc : c.cost[i] = ci at *
    cases hbt : P.testBit i with
    | true =>
      rw [hbt] at hps hbm
      simp only [if_true] at hps hbm
      rw [hbm] at htm
      have hw1 : IntKind.i64.wrap (u + IntKind.i64.wrap ((w : Int) % 2 * ci)) = u + ci := by
        rw [show (w : Int) % 2 = 1 from by omega, Int.one_mul, wrapI (x := ci) (by omega) (by omega), wrapI (by omega) (by omega)]
      (repeat (first | refine VC.seq ?_ | refine VC.block ?_ | refine VC.kill ?_ | refine VC.skip ?_ | refine VC.exit ?_ | refine VC.regA ?_ | refine VC.condT ?_ | refine VC.condF ?_))
      ((try (apply VC.regU; · ((simp (config := {decide := false, maxSteps := 1000000}) (disch := omega) only [vev_call, putC_c0, putC_n0, putC_cs, ble0, List.getElem?_cons_zero, List.getElem?_cons_succ, runU, isCall, wantV, vev, evV, ofVal, ofAtom, atomB, cond_true, cond_false, PT.get, PT.set, PT.filt, PT.map, Option.getD_some, Option.getD_none, ret1V, ret1X, v_ld, v_ias, v_iad, v_fad, v_slsl, v_slarr, v_st, v_app, v_cpy, v_clr, v_len, v_look, v_mset, elsV, partV, newV, free, atV, atI, atL, toVal, cellsV, okV, VSt.put, VSt.kill, VSt.alloc, VSt.frz, VSt.adopt, noref, norefB, deadB, deadV, nos, nm, nmL, nmB, nmE, Pa.eqb, Bool.not_false, Bool.not_true, Bool.and_true, Bool.true_and, Bool.false_and, Bool.and_false, bin, intOps, intBin, cvt, un, goInt, bndsV, bndV, Option.map_some, Option.map_none, List.map_cons, List.map_nil, Int.toNat_natCast, Nat.mul_one, Nat.zero_add, beq_true, beq_false, beq_self_eq_true, List.length_map, List.length_cons, List.length_nil, List.length_append, fillV, pEvV, repsV, List.append_nil, List.nil_append, if_pos, if_neg, reduceIte, List.getElem?_map, List.getElem?_drop, Nat.add_zero, List.getElem?_eq_getElem, Go.IntWalk.i64_in, wrap_u64, tmod_pos, eq_self, true_and, and_true, and_self, List.all_cons, List.all_nil, nmL_vi, flV_len, flP_len, flV_nm, flV_ok, flV_pv, flP_map, drop_flP, drop_flV, putC_flV, eqV2, eqV3, bneT, bneF, decide_true, decide_false, frzL_vi, frzL_flV, nmE_ag, nmE_at, frzE_ag, frzE_at, ofAg_len, ofAt_len, atL_vi, nmL_map_p, frzL_map_p, okL_p, toPVs_p, repsZ, nmL_reps, putC_vi, get_flV0, get_flV1, Int.toNat_zero, Int.toNat_one, Int.reduceToNat, eqV_slice, eqV_ptr, eqV_func, nilS, nilP, nilF, nmL_append, okL_vi, toPVs_vi, toPVs, toPV, frzV, frzL, frzB, resVV, vi, vb, nilV, sl1, bl1, pi, foldV, max2, min2, max_eq, min_eq, Int.tdiv_eq_ediv_of_nonneg, Int.cast_ofNat_Int, Option.isSome_none, Option.isSome_some, Option.isNone_none, Option.isNone_some, and_false, false_and, sl2, sl1P, slP, min_cast, take_map_pi, map_pi, Nat.sub_zero, Nat.zero_mul, List.length_take, decide_eq_true, decide_eq_false, Bool.true_eq_false, Bool.false_eq_true, beqT, beqF, ibeq, ibne, List.take_zero, List.take_succ_cons, List.drop_zero, List.drop_succ_cons, List.drop_nil, List.take_nil, List.cons_append, Bool.not_true, Bool.not_false, hsr, htm, hcc, hw1]); rfl))); (repeat (first | refine VC.seq ?_ | refine VC.block ?_ | refine VC.kill ?_ | refine VC.skip ?_ | refine VC.exit ?_ | refine VC.regA ?_ | refine VC.condT ?_ | refine VC.condF ?_)))
      refine ⟨_, i + 1, ?_, ⟨rfl, by omega⟩, ?_⟩
      · omega
      · (apply Go.Ab.V.G.weak; constructor <;> simp (config := {decide := true}) only [PT.Le, inV, mkB, PT.set, VSt.kill, VSt.adopt, VSt.alloc, PT.filt, PT.map, List.map_cons, List.map_nil, noref, norefB, deadB, deadV, nos, nm, nmL, nmB, nmE, Pa.eqb, cond_true, cond_false, Bool.not_true, Bool.not_false, Bool.and_true, Bool.true_and, nmL_vi, flV_len, flP_len, flV_nm, flV_ok, flV_pv, flP_map, drop_flP, drop_flV, putC_flV, eqV2, eqV3, bneT, bneF, decide_true, decide_false, frzL_vi, frzL_flV, nmE_ag, nmE_at, frzE_ag, frzE_at, ofAg_len, ofAt_len, atL_vi, nmL_map_p, frzL_map_p, okL_p, toPVs_p, repsZ, nmL_reps, putC_vi, get_flV0, get_flV1, Int.toNat_zero, Int.toNat_one, Int.reduceToNat, eqV_slice, eqV_ptr, eqV_func, nilS, nilP, nilF, nmL_append, true_or, or_true, and_self, true_and, and_true, Option.some.injEq, reduceCtorEq, false_or, or_false, VV.p.injEq, PV.at.injEq, Value.int.injEq, sl1, vi, bl1, vb, nilV, sl1, hps])
        (all_goals first | rfl | omega | exact ⟨rfl, by omega⟩)
    | false =>
      rw [hbt] at hps hbm
      simp only [Bool.false_eq_true, if_false] at hps hbm
      rw [hbm] at htm
      have hw1 : IntKind.i64.wrap (u + IntKind.i64.wrap ((w : Int) % 2 * ci)) = u + 0 := by
        rw [show (w : Int) % 2 = 0 from by omega, Int.zero_mul, wrapI (x := 0) (by omega) (by omega), wrapI (by omega) (by omega)]
      (repeat (first | refine VC.seq ?_ | refine VC.block ?_ | refine VC.kill ?_ | refine VC.skip ?_ | refine VC.exit ?_ | refine VC.regA ?_ | refine VC.condT ?_ | refine VC.condF ?_))
      ((try (apply VC.regU; · ((simp (config := {decide := false, maxSteps := 1000000}) (disch := omega) only [vev_call, putC_c0, putC_n0, putC_cs, ble0, List.getElem?_cons_zero, List.getElem?_cons_succ, runU, isCall, wantV, vev, evV, ofVal, ofAtom, atomB, cond_true, cond_false, PT.get, PT.set, PT.filt, PT.map, Option.getD_some, Option.getD_none, ret1V, ret1X, v_ld, v_ias, v_iad, v_fad, v_slsl, v_slarr, v_st, v_app, v_cpy, v_clr, v_len, v_look, v_mset, elsV, partV, newV, free, atV, atI, atL, toVal, cellsV, okV, VSt.put, VSt.kill, VSt.alloc, VSt.frz, VSt.adopt, noref, norefB, deadB, deadV, nos, nm, nmL, nmB, nmE, Pa.eqb, Bool.not_false, Bool.not_true, Bool.and_true, Bool.true_and, Bool.false_and, Bool.and_false, bin, intOps, intBin, cvt, un, goInt, bndsV, bndV, Option.map_some, Option.map_none, List.map_cons, List.map_nil, Int.toNat_natCast, Nat.mul_one, Nat.zero_add, beq_true, beq_false, beq_self_eq_true, List.length_map, List.length_cons, List.length_nil, List.length_append, fillV, pEvV, repsV, List.append_nil, List.nil_append, if_pos, if_neg, reduceIte, List.getElem?_map, List.getElem?_drop, Nat.add_zero, List.getElem?_eq_getElem, Go.IntWalk.i64_in, wrap_u64, tmod_pos, eq_self, true_and, and_true, and_self, List.all_cons, List.all_nil, nmL_vi, flV_len, flP_len, flV_nm, flV_ok, flV_pv, flP_map, drop_flP, drop_flV, putC_flV, eqV2, eqV3, bneT, bneF, decide_true, decide_false, frzL_vi, frzL_flV, nmE_ag, nmE_at, frzE_ag, frzE_at, ofAg_len, ofAt_len, atL_vi, nmL_map_p, frzL_map_p, okL_p, toPVs_p, repsZ, nmL_reps, putC_vi, get_flV0, get_flV1, Int.toNat_zero, Int.toNat_one, Int.reduceToNat, eqV_slice, eqV_ptr, eqV_func, nilS, nilP, nilF, nmL_append, okL_vi, toPVs_vi, toPVs, toPV, frzV, frzL, frzB, resVV, vi, vb, nilV, sl1, bl1, pi, foldV, max2, min2, max_eq, min_eq, Int.tdiv_eq_ediv_of_nonneg, Int.cast_ofNat_Int, Option.isSome_none, Option.isSome_some, Option.isNone_none, Option.isNone_some, and_false, false_and, sl2, sl1P, slP, min_cast, take_map_pi, map_pi, Nat.sub_zero, Nat.zero_mul, List.length_take, decide_eq_true, decide_eq_false, Bool.true_eq_false, Bool.false_eq_true, beqT, beqF, ibeq, ibne, List.take_zero, List.take_succ_cons, List.drop_zero, List.drop_succ_cons, List.drop_nil, List.take_nil, List.cons_append, Bool.not_true, Bool.not_false, hsr, htm, hcc, hw1]); rfl))); (repeat (first | refine VC.seq ?_ | refine VC.block ?_ | refine VC.kill ?_ | refine VC.skip ?_ | refine VC.exit ?_ | refine VC.regA ?_ | refine VC.condT ?_ | refine VC.condF ?_)))
      refine ⟨_, i + 1, ?_, ⟨rfl, by omega⟩, ?_⟩
      · omega
      · (apply Go.Ab.V.G.weak; constructor <;> simp (config := {decide := true}) only [PT.Le, inV, mkB, PT.set, VSt.kill, VSt.adopt, VSt.alloc, PT.filt, PT.map, List.map_cons, List.map_nil, noref, norefB, deadB, deadV, nos, nm, nmL, nmB, nmE, Pa.eqb, cond_true, cond_false, Bool.not_true, Bool.not_false, Bool.and_true, Bool.true_and, nmL_vi, flV_len, flP_len, flV_nm, flV_ok, flV_pv, flP_map, drop_flP, drop_flV, putC_flV, eqV2, eqV3, bneT, bneF, decide_true, decide_false, frzL_vi, frzL_flV, nmE_ag, nmE_at, frzE_ag, frzE_at, ofAg_len, ofAt_len, atL_vi, nmL_map_p, frzL_map_p, okL_p, toPVs_p, repsZ, nmL_reps, putC_vi, get_flV0, get_flV1, Int.toNat_zero, Int.toNat_one, Int.reduceToNat, eqV_slice, eqV_ptr, eqV_func, nilS, nilP, nilF, nmL_append, true_or, or_true, and_self, true_and, and_true, Option.some.injEq, reduceCtorEq, false_or, or_false, VV.p.injEq, PV.at.injEq, Value.int.injEq, sl1, vi, bl1, vb, nilV, sl1, hps])
        (all_goals first | rfl | omega | exact ⟨rfl, by omega⟩)
  · have hf := hfin (by omega)
    subst hf
    (repeat (first | refine VC.seq ?_ | refine VC.block ?_ | refine VC.kill ?_ | refine VC.skip ?_ | refine VC.exit ?_ | refine VC.regA ?_ | refine VC.condT ?_ | refine VC.condF ?_))
    exact VC.ret (Fin.A rfl)
def orTo (nd : List Nat) (S i : Nat) : Nat := (bitsTo S i).foldl (fun a s => a ||| nd.getD s 0) 0
theorem orTo_succ (nd : List Nat) (S i : Nat) : orTo nd S (i + 1) = if S.testBit i = true then orTo nd S i ||| nd.getD i 0 else orTo nd S i := by
  unfold orTo
  rw [bitsTo_succ]
  split
  · rw [List.foldl_append]; rfl
  · rfl
theorem pieces_lt2 {c : Can} (h : okC c) (k S : Nat) : pieces (needK c k) S < 2 ^ c.cost.length := by
  apply Nat.lt_pow_two_of_testBit
  intro i hi
  cases hb : (pieces (needK c k) S).testBit i with
  | false => rfl
  | true =>
    obtain ⟨s, _, hs⟩ := pieces_bit.1 hb
    have := needK_bit h hs
    have := h.cl
    omega
set_option maxHeartbeats 4000000 in
theorem RCostOf_ok (c : Can) (h : okC c) (S : Nat) (hS : S < 2 ^ c.ships.length) : VCall cfg 30 [canV c, vi S] [] [] (vi (costS c S)) [] := by
  have h7 := h.s7
  have kc := RCost_ok c h (pieces (needK c c.ships.length) S) (pieces_lt2 h _ S)
  have kn := RNeeds_ok c h
  have hend : orTo (needK c c.ships.length) S c.ships.length = pieces (needK c c.ships.length) S := by unfold orTo pieces; rw [bitsTo_end hS (by omega)]
  have hlt := needK_lt h c.ships.length
  have hS7 : S < 1024 := Nat.lt_of_lt_of_le hS (show 2 ^ c.ships.length ≤ 2 ^ 10 from Nat.pow_le_pow_right (by decide) (by omega))
  have hgd : ∀ s, s < c.ships.length → (needK c c.ships.length).getD s 0 = ch c (c.ships.getD s (-1)) := fun s hs => by
    rw [List.getD_eq_getElem?_getD, List.getElem?_eq_getElem (by rw [needK_len]; omega), Option.getD_some, needK_get, if_pos hs]
  unfold costS
  have hol : ∀ i, orTo (needK c c.ships.length) S i < 1024 := fun i => fold_or_lt _ hlt _ _ (by decide)
  have hos := fun i => orTo_succ (needK c c.ships.length) S i
  generalize needK c c.ships.length = nd at *
  unfold canV at kc kn ⊢
  (refine VCall.mk (fn := a30) rfl rfl rfl ?_; simp only [a30, inV, mkB, nmsL, PT.set])
  (repeat (first | refine VC.seq ?_ | refine VC.block ?_ | refine VC.kill ?_ | refine VC.skip ?_ | refine VC.exit ?_ | refine VC.regA ?_ | refine VC.condT ?_ | refine VC.condF ?_))
  refine VC.loopG (fun (i : Nat) => ⟨inV [p1, p2, p5, p6] [vi S, .op 0 p2 0, vi (orTo nd S i : Nat), vi i] .lf, mkB [(p2, .cells [sl1 c.up, sl1 c.cost, sl1 c.ships])] .lf, [], none⟩) (fun n i => n = c.ships.length - i ∧ i ≤ c.ships.length) (x := 0) ?_ ⟨rfl, Nat.zero_le _⟩ ?_
  · have : orTo nd S 0 = 0 := rfl
    (apply Go.Ab.V.G.weak; constructor <;> simp (config := {decide := true}) only [PT.Le, inV, mkB, PT.set, VSt.kill, VSt.adopt, VSt.alloc, PT.filt, PT.map, List.map_cons, List.map_nil, noref, norefB, deadB, deadV, nos, nm, nmL, nmB, nmE, Pa.eqb, cond_true, cond_false, Bool.not_true, Bool.not_false, Bool.and_true, Bool.true_and, nmL_vi, flV_len, flP_len, flV_nm, flV_ok, flV_pv, flP_map, drop_flP, drop_flV, putC_flV, eqV2, eqV3, bneT, bneF, decide_true, decide_false, frzL_vi, frzL_flV, nmE_ag, nmE_at, frzE_ag, frzE_at, ofAg_len, ofAt_len, atL_vi, nmL_map_p, frzL_map_p, okL_p, toPVs_p, repsZ, nmL_reps, putC_vi, get_flV0, get_flV1, Int.toNat_zero, Int.toNat_one, Int.reduceToNat, eqV_slice, eqV_ptr, eqV_func, nilS, nilP, nilF, nmL_append, true_or, or_true, and_self, true_and, and_true, Option.some.injEq, reduceCtorEq, false_or, or_false, VV.p.injEq, PV.at.injEq, Value.int.injEq, sl1, vi, bl1, vb, nilV, sl1, this])
    (all_goals first | rfl | omega | exact ⟨rfl, by omega⟩)
  rintro n i ⟨hn, hi⟩
  simp only [inV, PT.set, mkB]
  have ho := hos i
  have hl := hol i
  have hfin : i = c.ships.length → orTo nd S i = pieces nd S := fun e => by rw [e, hend]
  generalize orTo nd S i = u at *
  (repeat (first | refine VC.seq ?_ | refine VC.block ?_ | refine VC.kill ?_ | refine VC.skip ?_ | refine VC.exit ?_ | refine VC.regA ?_ | refine VC.condT ?_ | refine VC.condF ?_))
  refine VC.condA ?_ ?_ <;> intro h' <;> (simp only [decide_eq_true_eq, decide_eq_false_iff_not, bne_iff_ne, ne_eq, bne_eq_false_iff_eq, beq_iff_eq, beq_eq_false_iff_ne, Bool.not_eq_true', Bool.not_eq_false', Bool.and_eq_true, Bool.or_eq_true, Int.natCast_inj] at h')
  · have h' : i < c.ships.length := by omega
    have hfd := fdivI (a := S) (p := i) (by omega)
    have hbm := bit_mod S i
    generalize hw : S >>> i = w at *
    have htm : (w : Int).tmod 2 = ((w % 2 : Nat) : Int) := by rw [Int.tmod_eq_emod_of_nonneg (by omega)]; omega
    have k2 := kn i h'
    rw [← hgd i h'] at k2
    have hl2 := hlt i
    generalize nd.getD i 0 = x at *
    have hor1 := or_i64 (a := u) (b := x) (by omega) (by omega)
    cases hbt : S.testBit i with
    | true =>
      rw [hbt] at ho hbm
      simp only [if_true] at ho hbm
      rw [hbm] at htm
      (repeat (first | refine VC.seq ?_ | refine VC.block ?_ | refine VC.kill ?_ | refine VC.skip ?_ | refine VC.exit ?_ | refine VC.regA ?_ | refine VC.condT ?_ | refine VC.condF ?_))
      simp only [hfd, htm]
      (repeat (first | refine VC.seq ?_ | refine VC.block ?_ | refine VC.kill ?_ | refine VC.skip ?_ | refine VC.exit ?_ | refine VC.regA ?_ | refine VC.condT ?_ | refine VC.condF ?_))
      (refine VC.regCA ?_; refine VO.moreA ?_; refine VO.call0A (no_orc _ (by decide)) k2 ?_; refine VO.endA ?_; (repeat (first | refine VC.seq ?_ | refine VC.block ?_ | refine VC.kill ?_ | refine VC.skip ?_ | refine VC.exit ?_ | refine VC.regA ?_ | refine VC.condT ?_ | refine VC.condF ?_)))
      simp only [hor1]
      refine ⟨_, i + 1, ?_, ⟨rfl, by omega⟩, ?_⟩
      · omega
      · (apply Go.Ab.V.G.weak; constructor <;> simp (config := {decide := true}) only [PT.Le, inV, mkB, PT.set, VSt.kill, VSt.adopt, VSt.alloc, PT.filt, PT.map, List.map_cons, List.map_nil, noref, norefB, deadB, deadV, nos, nm, nmL, nmB, nmE, Pa.eqb, cond_true, cond_false, Bool.not_true, Bool.not_false, Bool.and_true, Bool.true_and, nmL_vi, flV_len, flP_len, flV_nm, flV_ok, flV_pv, flP_map, drop_flP, drop_flV, putC_flV, eqV2, eqV3, bneT, bneF, decide_true, decide_false, frzL_vi, frzL_flV, nmE_ag, nmE_at, frzE_ag, frzE_at, ofAg_len, ofAt_len, atL_vi, nmL_map_p, frzL_map_p, okL_p, toPVs_p, repsZ, nmL_reps, putC_vi, get_flV0, get_flV1, Int.toNat_zero, Int.toNat_one, Int.reduceToNat, eqV_slice, eqV_ptr, eqV_func, nilS, nilP, nilF, nmL_append, true_or, or_true, and_self, true_and, and_true, Option.some.injEq, reduceCtorEq, false_or, or_false, VV.p.injEq, PV.at.injEq, Value.int.injEq, sl1, vi, bl1, vb, nilV, sl1, ho])
        (all_goals first | rfl | omega | exact ⟨rfl, by omega⟩)
    | false =>
      rw [hbt] at ho hbm
      simp only [Bool.false_eq_true, if_false] at ho hbm
      rw [hbm] at htm
      (repeat (first | refine VC.seq ?_ | refine VC.block ?_ | refine VC.kill ?_ | refine VC.skip ?_ | refine VC.exit ?_ | refine VC.regA ?_ | refine VC.condT ?_ | refine VC.condF ?_))
      simp only [hfd, htm]
      (repeat (first | refine VC.seq ?_ | refine VC.block ?_ | refine VC.kill ?_ | refine VC.skip ?_ | refine VC.exit ?_ | refine VC.regA ?_ | refine VC.condT ?_ | refine VC.condF ?_))
      refine ⟨_, i + 1, ?_, ⟨rfl, by omega⟩, ?_⟩
      · omega
      · (apply Go.Ab.V.G.weak; constructor <;> simp (config := {decide := true}) only [PT.Le, inV, mkB, PT.set, VSt.kill, VSt.adopt, VSt.alloc, PT.filt, PT.map, List.map_cons, List.map_nil, noref, norefB, deadB, deadV, nos, nm, nmL, nmB, nmE, Pa.eqb, cond_true, cond_false, Bool.not_true, Bool.not_false, Bool.and_true, Bool.true_and, nmL_vi, flV_len, flP_len, flV_nm, flV_ok, flV_pv, flP_map, drop_flP, drop_flV, putC_flV, eqV2, eqV3, bneT, bneF, decide_true, decide_false, frzL_vi, frzL_flV, nmE_ag, nmE_at, frzE_ag, frzE_at, ofAg_len, ofAt_len, atL_vi, nmL_map_p, frzL_map_p, okL_p, toPVs_p, repsZ, nmL_reps, putC_vi, get_flV0, get_flV1, Int.toNat_zero, Int.toNat_one, Int.reduceToNat, eqV_slice, eqV_ptr, eqV_func, nilS, nilP, nilF, nmL_append, true_or, or_true, and_self, true_and, and_true, Option.some.injEq, reduceCtorEq, false_or, or_false, VV.p.injEq, PV.at.injEq, Value.int.injEq, sl1, vi, bl1, vb, nilV, sl1, ho])
        (all_goals first | rfl | omega | exact ⟨rfl, by omega⟩)
  · have hf := hfin (by omega)
    subst hf
    (repeat (first | refine VC.seq ?_ | refine VC.block ?_ | refine VC.kill ?_ | refine VC.skip ?_ | refine VC.exit ?_ | refine VC.regA ?_ | refine VC.condT ?_ | refine VC.condF ?_))
    (refine VC.regCA ?_; refine VO.moreA ?_; refine VO.call0A (no_orc _ (by decide)) kc ?_; refine VO.endA ?_; (repeat (first | refine VC.seq ?_ | refine VC.block ?_ | refine VC.kill ?_ | refine VC.skip ?_ | refine VC.exit ?_ | refine VC.regA ?_ | refine VC.condT ?_ | refine VC.condF ?_)))
    exact VC.ret (Fin.A rfl)
end Go.Ab.Dues

namespace Go.Ab.Dues
/-! ### Set functions: plain sums over ranges -/
/-- The pieces that a set needs. -/
def un (nb : Nat → Nat → Bool) (q : Nat → Bool) (n i : Nat) : Bool := (List.range n).any fun s => q s && nb s i
end Go.Ab.Dues

namespace Go.Ab.Dues
open Go.Ab.V
set_option maxRecDepth 100000
end Go.Ab.Dues

namespace Go.Ab.Dues
open Go.Ab.V
set_option maxRecDepth 100000
end Go.Ab.Dues

namespace Go.Ab.Dues
open Go.Ab.V
set_option maxRecDepth 100000
def tn (c : Can) : Nat := max 1 (min c.up.length 10)
def upT (c : Can) (i : Nat) : List Int := (List.range i).map fun (k : Nat) => if k = 0 then -1 else c.up.getD k 0 % 18446744073709551616 % k
def costT (c : Can) (i : Nat) : List Int := (List.range i).map fun k => if k < c.cost.length then c.cost.getD k 0 % 18446744073709551616 % 1001 else 1
def shipT (c : Can) (i : Nat) : List Int := (c.ships.take i).map fun x => x % 18446744073709551616 % (tn c : Nat)
def tameC (c : Can) (m : Nat) : Can := ⟨upT c (tn c), costT c (tn c), shipT c m⟩
theorem upT_len (c : Can) (i : Nat) : (upT c i).length = i := by simp [upT]
theorem costT_len (c : Can) (i : Nat) : (costT c i).length = i := by simp [costT]
theorem upT_succ (c : Can) (i : Nat) : upT c (i + 1) = upT c i ++ [if i = 0 then -1 else c.up.getD i 0 % 18446744073709551616 % i] := by simp [upT, List.range_succ]
theorem costT_succ (c : Can) (i : Nat) : costT c (i + 1) = costT c i ++ [if i < c.cost.length then c.cost.getD i 0 % 18446744073709551616 % 1001 else 1] := by simp [costT, List.range_succ]
theorem shipT_succ (c : Can) (i : Nat) (h : i < c.ships.length) : shipT c (i + 1) = shipT c i ++ [c.ships[i] % 18446744073709551616 % (tn c : Nat)] := by
  unfold shipT; rw [List.take_add_one, List.getElem?_eq_getElem h, List.map_append]; rfl
theorem shipT_len (c : Can) (i : Nat) : (shipT c i).length = min i c.ships.length := by simp [shipT]
theorem tame_okC (c : Can) (m : Nat) (hm : m ≤ 7) : okC (tameC c m) := by
  have hn : 1 ≤ tn c ∧ tn c ≤ 10 := by unfold tn; omega
  refine ⟨?_, ?_, ?_, ?_, ?_, ?_, ?_, ?_⟩
  · simp only [tameC, upT_len]; omega
  · simp only [tameC, upT_len]; omega
  · simp only [tameC, upT_len, costT_len]
  · simp only [tameC, shipT_len]; omega
  · intro h; simp [tameC, upT]
  · intro i h hi
    simp only [tameC, upT, List.getElem_map, List.getElem_range, if_neg (show ¬i = 0 by omega)]
    exact ⟨Int.emod_nonneg _ (by omega), Int.emod_lt_of_pos _ (by omega)⟩
  · intro i h
    simp only [tameC, costT, List.getElem_map, List.getElem_range]
    split <;> omega
  · intro x hx
    simp only [tameC, shipT, List.mem_map] at hx
    obtain ⟨y, _, rfl⟩ := hx
    simp only [tameC, upT_len]
    exact ⟨Int.emod_nonneg _ (by omega), Int.emod_lt_of_pos _ (by omega)⟩
set_option maxHeartbeats 8000000 in
theorem tame_ok (c : Can) (m : Nat) (hm : m ≤ 7) (h1 : c.up.length ≤ 9223372036854775807) (h2 : c.cost.length ≤ 9223372036854775807) (h3 : c.ships.length ≤ 9223372036854775807) : VCall cfg 15 [canV c, vi m] [] [] (canV (tameC c m)) [] := by
  have hn : 1 ≤ tn c ∧ tn c ≤ 10 := by unfold tn; omega
  have hnc : max 1 (min (c.up.length : Int) 10) = (tn c : Int) := by unfold tn; omega
  have hnup : ∀ i, i < tn c → 0 < i → i < c.up.length := fun i h0 h1 => by unfold tn at h0; omega
  have hul := upT_len c
  have hcl := costT_len c
  have hus := upT_succ c
  have hcs := costT_succ c
  unfold canV tameC
  generalize hNN : tn c = N at *
  (refine VCall.mk (fn := a15) rfl rfl rfl ?_; simp only [a15, inV, mkB, nmsL, PT.set])
  (repeat (first | refine VC.seq ?_ | refine VC.block ?_ | refine VC.kill ?_ | refine VC.skip ?_ | refine VC.exit ?_ | refine VC.regA ?_ | refine VC.condT ?_ | refine VC.condF ?_))
  simp only [hnc]
  refine VC.ghost (G.adoptBA (p := p5) 0 1 p56 G.refl) ?_
  (simp only [List.nil_append, List.append_nil, VSt.kill, VSt.osob, VSt.adoptB, VSt.adopt, VSt.alloc, PT.filt, norefB, deadB, deadV, PT.map, Option.map_some, Option.map_none, List.map_cons, List.map_nil, noref, nos, nm, nmL, nmB, nmE, Pa.eqb, PT.set, mkB, inV, cond_true, cond_false, Bool.and_true, Bool.not_false, Bool.not_true, List.set_cons_zero, List.set_cons_succ])
  refine VC.ghost (G.adoptBA (p := p5) 1 1 p61 G.refl) ?_
  (simp only [List.nil_append, List.append_nil, VSt.kill, VSt.osob, VSt.adoptB, VSt.adopt, VSt.alloc, PT.filt, norefB, deadB, deadV, PT.map, Option.map_some, Option.map_none, List.map_cons, List.map_nil, noref, nos, nm, nmL, nmB, nmE, Pa.eqb, PT.set, mkB, inV, cond_true, cond_false, Bool.and_true, Bool.not_false, Bool.not_true, List.set_cons_zero, List.set_cons_succ])
  refine VC.ghost (G.adoptBA (p := p5) 2 1 p89 G.refl) ?_
  (simp only [List.nil_append, List.append_nil, VSt.kill, VSt.osob, VSt.adoptB, VSt.adopt, VSt.alloc, PT.filt, norefB, deadB, deadV, PT.map, Option.map_some, Option.map_none, List.map_cons, List.map_nil, noref, nos, nm, nmL, nmB, nmE, Pa.eqb, PT.set, mkB, inV, cond_true, cond_false, Bool.and_true, Bool.not_false, Bool.not_true, List.set_cons_zero, List.set_cons_succ])
  refine VC.loopG (fun (i : Nat) => ⟨inV [p1, p2, p4, p5, p6, p7] [vi m, .op 0 p2 0, .op 0 p4 0, .op 0 p5 0, vi N, vi i] .lf, mkB [(p2, .cells [sl1 c.up, sl1 c.cost, sl1 c.ships]), (p4, .cells [nilV, nilV, nilV]), (p5, .cells [.os 1 p56 i, .os 1 p61 i, .os 1 p89 0]), (p56, .cells ((upT c i).map vi)), (p61, .cells ((costT c i).map vi)), (p89, .cells [])] .lf, [], none⟩) (fun n i => n = N - i ∧ i ≤ N) (x := 0) ?_ ⟨rfl, Nat.zero_le _⟩ ?_
  · have e1 : upT c 0 = [] := rfl
    have e2 : costT c 0 = [] := rfl
    (apply Go.Ab.V.G.weak; constructor <;> simp (config := {decide := true}) only [PT.Le, inV, mkB, PT.set, VSt.kill, VSt.adopt, VSt.alloc, PT.filt, PT.map, List.map_cons, List.map_nil, noref, norefB, deadB, deadV, nos, nm, nmL, nmB, nmE, Pa.eqb, cond_true, cond_false, Bool.not_true, Bool.not_false, Bool.and_true, Bool.true_and, nmL_vi, flV_len, flP_len, flV_nm, flV_ok, flV_pv, flP_map, drop_flP, drop_flV, putC_flV, eqV2, eqV3, bneT, bneF, decide_true, decide_false, frzL_vi, frzL_flV, nmE_ag, nmE_at, frzE_ag, frzE_at, ofAg_len, ofAt_len, atL_vi, nmL_map_p, frzL_map_p, okL_p, toPVs_p, repsZ, nmL_reps, putC_vi, get_flV0, get_flV1, Int.toNat_zero, Int.toNat_one, Int.reduceToNat, eqV_slice, eqV_ptr, eqV_func, nilS, nilP, nilF, nmL_append, true_or, or_true, and_self, true_and, and_true, Option.some.injEq, reduceCtorEq, false_or, or_false, VV.p.injEq, PV.at.injEq, Value.int.injEq, sl1, vi, bl1, vb, nilV, sl1, e1, e2])
    (all_goals first | rfl | omega | exact ⟨rfl, by omega⟩)
  rintro n i ⟨hn', hi⟩
  simp only [inV, PT.set, mkB]
  have hui := hus i
  have hci := hcs i
  have hul1 := hul i
  have hcl1 := hcl i
  have hfin : i = N → upT c i = upT c N ∧ costT c i = costT c N := fun e => by rw [e]; exact ⟨rfl, rfl⟩
  generalize hU : upT c i = U at *
  generalize hC : costT c i = T at *
  (repeat (first | refine VC.seq ?_ | refine VC.block ?_ | refine VC.kill ?_ | refine VC.skip ?_ | refine VC.exit ?_ | refine VC.regA ?_ | refine VC.condT ?_ | refine VC.condF ?_))
  refine VC.condA ?_ ?_ <;> intro h' <;> (simp only [decide_eq_true_eq, decide_eq_false_iff_not, bne_iff_ne, ne_eq, bne_eq_false_iff_eq, beq_iff_eq, beq_eq_false_iff_ne, Bool.not_eq_true', Bool.not_eq_false', Bool.and_eq_true, Bool.or_eq_true, Int.natCast_inj] at h')
  · have h' : i < N := by omega
    have key : ∀ (u k : Int), u = (if i = 0 then -1 else c.up.getD i 0 % 18446744073709551616 % i) → k = (if i < c.cost.length then c.cost.getD i 0 % 18446744073709551616 % 1001 else 1) → upT c (i + 1) = U ++ [u] ∧ costT c (i + 1) = T ++ [k] := fun u k e1 e2 => by rw [hui, hci, e1, e2]; exact ⟨rfl, rfl⟩
    by_cases hi0 : i = 0
    · subst hi0
      by_cases hcc : 0 < c.cost.length
      · have hgd : c.cost.getD 0 0 = c.cost[0] := by rw [List.getD_eq_getElem?_getD, List.getElem?_eq_getElem hcc]; rfl
        obtain ⟨k1, k2⟩ := key (-1) (c.cost[0] % 18446744073709551616 % 1001) (by simp) (by rw [if_pos hcc, hgd])
        (repeat (first | refine VC.seq ?_ | refine VC.block ?_ | refine VC.kill ?_ | refine VC.skip ?_ | refine VC.exit ?_ | refine VC.regA ?_ | refine VC.condT ?_ | refine VC.condF ?_))
        refine ⟨_, 1, ?_, ⟨rfl, by omega⟩, ?_⟩
        · omega
        · (apply Go.Ab.V.G.weak; constructor <;> simp (config := {decide := true}) only [PT.Le, inV, mkB, PT.set, VSt.kill, VSt.adopt, VSt.alloc, PT.filt, PT.map, List.map_cons, List.map_nil, noref, norefB, deadB, deadV, nos, nm, nmL, nmB, nmE, Pa.eqb, cond_true, cond_false, Bool.not_true, Bool.not_false, Bool.and_true, Bool.true_and, nmL_vi, flV_len, flP_len, flV_nm, flV_ok, flV_pv, flP_map, drop_flP, drop_flV, putC_flV, eqV2, eqV3, bneT, bneF, decide_true, decide_false, frzL_vi, frzL_flV, nmE_ag, nmE_at, frzE_ag, frzE_at, ofAg_len, ofAt_len, atL_vi, nmL_map_p, frzL_map_p, okL_p, toPVs_p, repsZ, nmL_reps, putC_vi, get_flV0, get_flV1, Int.toNat_zero, Int.toNat_one, Int.reduceToNat, eqV_slice, eqV_ptr, eqV_func, nilS, nilP, nilF, nmL_append, true_or, or_true, and_self, true_and, and_true, Option.some.injEq, reduceCtorEq, false_or, or_false, VV.p.injEq, PV.at.injEq, Value.int.injEq, sl1, vi, bl1, vb, nilV, sl1, k1, k2, List.map_append])
          (all_goals first | rfl | omega | exact ⟨rfl, by omega⟩)
      · obtain ⟨k1, k2⟩ := key (-1) 1 (by simp) (by rw [if_neg hcc])
        (repeat (first | refine VC.seq ?_ | refine VC.block ?_ | refine VC.kill ?_ | refine VC.skip ?_ | refine VC.exit ?_ | refine VC.regA ?_ | refine VC.condT ?_ | refine VC.condF ?_))
        refine ⟨_, 1, ?_, ⟨rfl, by omega⟩, ?_⟩
        · omega
        · (apply Go.Ab.V.G.weak; constructor <;> simp (config := {decide := true}) only [PT.Le, inV, mkB, PT.set, VSt.kill, VSt.adopt, VSt.alloc, PT.filt, PT.map, List.map_cons, List.map_nil, noref, norefB, deadB, deadV, nos, nm, nmL, nmB, nmE, Pa.eqb, cond_true, cond_false, Bool.not_true, Bool.not_false, Bool.and_true, Bool.true_and, nmL_vi, flV_len, flP_len, flV_nm, flV_ok, flV_pv, flP_map, drop_flP, drop_flV, putC_flV, eqV2, eqV3, bneT, bneF, decide_true, decide_false, frzL_vi, frzL_flV, nmE_ag, nmE_at, frzE_ag, frzE_at, ofAg_len, ofAt_len, atL_vi, nmL_map_p, frzL_map_p, okL_p, toPVs_p, repsZ, nmL_reps, putC_vi, get_flV0, get_flV1, Int.toNat_zero, Int.toNat_one, Int.reduceToNat, eqV_slice, eqV_ptr, eqV_func, nilS, nilP, nilF, nmL_append, true_or, or_true, and_self, true_and, and_true, Option.some.injEq, reduceCtorEq, false_or, or_false, VV.p.injEq, PV.at.injEq, Value.int.injEq, sl1, vi, bl1, vb, nilV, sl1, k1, k2, List.map_append])
          (all_goals first | rfl | omega | exact ⟨rfl, by omega⟩)
    · have hup := hnup i h' (by omega)
      have hgu : c.up.getD i 0 = c.up[i] := by rw [List.getD_eq_getElem?_getD, List.getElem?_eq_getElem hup]; rfl
      have hb0 : 0 ≤ c.up[i] % 18446744073709551616 % (i : Int) := Int.emod_nonneg _ (by omega)
      have hb1 : c.up[i] % 18446744073709551616 % (i : Int) < i := Int.emod_lt_of_pos _ (by omega)
      have hi64 : (i : Int) % 18446744073709551616 = i := by omega
      have hb2 : 0 ≤ c.up[i] % 18446744073709551616 % ((i : Int) % 18446744073709551616) ∧ c.up[i] % 18446744073709551616 % ((i : Int) % 18446744073709551616) < i := by rw [hi64]; exact ⟨hb0, hb1⟩
      by_cases hcc : i < c.cost.length
      · have hgd : c.cost.getD i 0 = c.cost[i] := by rw [List.getD_eq_getElem?_getD, List.getElem?_eq_getElem hcc]; rfl
        obtain ⟨k1, k2⟩ := key (c.up[i] % 18446744073709551616 % i) (c.cost[i] % 18446744073709551616 % 1001) (by rw [if_neg hi0, hgu]) (by rw [if_pos hcc, hgd])
        (repeat (first | refine VC.seq ?_ | refine VC.block ?_ | refine VC.kill ?_ | refine VC.skip ?_ | refine VC.exit ?_ | refine VC.regA ?_ | refine VC.condT ?_ | refine VC.condF ?_))
        simp only [hi64]
        refine ⟨_, i + 1, ?_, ⟨rfl, by omega⟩, ?_⟩
        · omega
        · (apply Go.Ab.V.G.weak; constructor <;> simp (config := {decide := true}) only [PT.Le, inV, mkB, PT.set, VSt.kill, VSt.adopt, VSt.alloc, PT.filt, PT.map, List.map_cons, List.map_nil, noref, norefB, deadB, deadV, nos, nm, nmL, nmB, nmE, Pa.eqb, cond_true, cond_false, Bool.not_true, Bool.not_false, Bool.and_true, Bool.true_and, nmL_vi, flV_len, flP_len, flV_nm, flV_ok, flV_pv, flP_map, drop_flP, drop_flV, putC_flV, eqV2, eqV3, bneT, bneF, decide_true, decide_false, frzL_vi, frzL_flV, nmE_ag, nmE_at, frzE_ag, frzE_at, ofAg_len, ofAt_len, atL_vi, nmL_map_p, frzL_map_p, okL_p, toPVs_p, repsZ, nmL_reps, putC_vi, get_flV0, get_flV1, Int.toNat_zero, Int.toNat_one, Int.reduceToNat, eqV_slice, eqV_ptr, eqV_func, nilS, nilP, nilF, nmL_append, true_or, or_true, and_self, true_and, and_true, Option.some.injEq, reduceCtorEq, false_or, or_false, VV.p.injEq, PV.at.injEq, Value.int.injEq, sl1, vi, bl1, vb, nilV, sl1, k1, k2, List.map_append])
          (all_goals first | rfl | omega | exact ⟨rfl, by omega⟩)
      · obtain ⟨k1, k2⟩ := key (c.up[i] % 18446744073709551616 % i) 1 (by rw [if_neg hi0, hgu]) (by rw [if_neg hcc])
        (repeat (first | refine VC.seq ?_ | refine VC.block ?_ | refine VC.kill ?_ | refine VC.skip ?_ | refine VC.exit ?_ | refine VC.regA ?_ | refine VC.condT ?_ | refine VC.condF ?_))
        simp only [hi64]
        refine ⟨_, i + 1, ?_, ⟨rfl, by omega⟩, ?_⟩
        · omega
        · (apply Go.Ab.V.G.weak; constructor <;> simp (config := {decide := true}) only [PT.Le, inV, mkB, PT.set, VSt.kill, VSt.adopt, VSt.alloc, PT.filt, PT.map, List.map_cons, List.map_nil, noref, norefB, deadB, deadV, nos, nm, nmL, nmB, nmE, Pa.eqb, cond_true, cond_false, Bool.not_true, Bool.not_false, Bool.and_true, Bool.true_and, nmL_vi, flV_len, flP_len, flV_nm, flV_ok, flV_pv, flP_map, drop_flP, drop_flV, putC_flV, eqV2, eqV3, bneT, bneF, decide_true, decide_false, frzL_vi, frzL_flV, nmE_ag, nmE_at, frzE_ag, frzE_at, ofAg_len, ofAt_len, atL_vi, nmL_map_p, frzL_map_p, okL_p, toPVs_p, repsZ, nmL_reps, putC_vi, get_flV0, get_flV1, Int.toNat_zero, Int.toNat_one, Int.reduceToNat, eqV_slice, eqV_ptr, eqV_func, nilS, nilP, nilF, nmL_append, true_or, or_true, and_self, true_and, and_true, Option.some.injEq, reduceCtorEq, false_or, or_false, VV.p.injEq, PV.at.injEq, Value.int.injEq, sl1, vi, bl1, vb, nilV, sl1, k1, k2, List.map_append])
          (all_goals first | rfl | omega | exact ⟨rfl, by omega⟩)
  · obtain ⟨f1, f2⟩ := hfin (by omega)
    have hiN : i = N := by omega
    subst hiN
    rw [← f1, ← f2]
    have hsl := fun k => shipT_len c k
    clear hui hci hus hcs hfin f1 f2
    (repeat (first | refine VC.seq ?_ | refine VC.block ?_ | refine VC.kill ?_ | refine VC.skip ?_ | refine VC.exit ?_ | refine VC.regA ?_ | refine VC.condT ?_ | refine VC.condF ?_))
    refine VC.loopG (fun (k : Nat) => ⟨inV [p1, p2, p4, p5, p6, p12] [vi m, .op 0 p2 0, .op 0 p4 0, .op 0 p5 0, vi i, vi k] .lf, mkB [(p2, .cells [sl1 c.up, sl1 c.cost, sl1 c.ships]), (p4, .cells [nilV, nilV, nilV]), (p5, .cells [.os 1 p56 i, .os 1 p61 i, .os 1 p89 k]), (p56, .cells (U.map vi)), (p61, .cells (T.map vi)), (p89, .cells ((shipT c k).map vi))] .lf, [], none⟩) (fun n k => n = c.ships.length - k ∧ k ≤ c.ships.length ∧ k ≤ m) (x := 0) ?_ ⟨rfl, Nat.zero_le _, Nat.zero_le _⟩ ?_
    · have e1 : shipT c 0 = [] := rfl
      (apply Go.Ab.V.G.weak; constructor <;> simp (config := {decide := true}) only [PT.Le, inV, mkB, PT.set, VSt.kill, VSt.adopt, VSt.alloc, PT.filt, PT.map, List.map_cons, List.map_nil, noref, norefB, deadB, deadV, nos, nm, nmL, nmB, nmE, Pa.eqb, cond_true, cond_false, Bool.not_true, Bool.not_false, Bool.and_true, Bool.true_and, nmL_vi, flV_len, flP_len, flV_nm, flV_ok, flV_pv, flP_map, drop_flP, drop_flV, putC_flV, eqV2, eqV3, bneT, bneF, decide_true, decide_false, frzL_vi, frzL_flV, nmE_ag, nmE_at, frzE_ag, frzE_at, ofAg_len, ofAt_len, atL_vi, nmL_map_p, frzL_map_p, okL_p, toPVs_p, repsZ, nmL_reps, putC_vi, get_flV0, get_flV1, Int.toNat_zero, Int.toNat_one, Int.reduceToNat, eqV_slice, eqV_ptr, eqV_func, nilS, nilP, nilF, nmL_append, true_or, or_true, and_self, true_and, and_true, Option.some.injEq, reduceCtorEq, false_or, or_false, VV.p.injEq, PV.at.injEq, Value.int.injEq, sl1, vi, bl1, vb, nilV, sl1, e1])
      (all_goals first | rfl | omega | exact ⟨rfl, by omega⟩)
    rintro n2 k ⟨hn2, hk, hkm⟩
    simp only [inV, PT.set, mkB]
    have hlk := hsl k
    rw [Nat.min_eq_left hk] at hlk
    have hss := shipT_succ c k
    have hfin2 : (k = m ∨ k = c.ships.length) → shipT c m = shipT c k := fun e => by
      unfold shipT
      rcases e with rfl | rfl
      · rfl
      · rw [List.take_of_length_le (by omega), List.take_of_length_le (by omega)]
    rw [hNN] at hss
    have hi64 : (i : Int) % 18446744073709551616 = i := by omega
    generalize hP : shipT c k = P at *
    by_cases hk1 : k < c.ships.length
    · by_cases hk2 : k < m
      · have hss := hss hk1
        have hb0 : 0 ≤ c.ships[k] % 18446744073709551616 % (i : Int) := Int.emod_nonneg _ (by omega)
        have hb1 : c.ships[k] % 18446744073709551616 % (i : Int) < i := Int.emod_lt_of_pos _ (by omega)
        have hb2 : 0 ≤ c.ships[k] % 18446744073709551616 % ((i : Int) % 18446744073709551616) ∧ c.ships[k] % 18446744073709551616 % ((i : Int) % 18446744073709551616) < i := by rw [hi64]; exact ⟨hb0, hb1⟩
        clear hfin2
        (repeat (first | refine VC.seq ?_ | refine VC.block ?_ | refine VC.kill ?_ | refine VC.skip ?_ | refine VC.exit ?_ | refine VC.regA ?_ | refine VC.condT ?_ | refine VC.condF ?_))
        simp only [hi64]
        refine ⟨_, k + 1, ?_, ⟨rfl, by omega, by omega⟩, ?_⟩
        · omega
        · (apply Go.Ab.V.G.weak; constructor <;> simp (config := {decide := true}) only [PT.Le, inV, mkB, PT.set, VSt.kill, VSt.adopt, VSt.alloc, PT.filt, PT.map, List.map_cons, List.map_nil, noref, norefB, deadB, deadV, nos, nm, nmL, nmB, nmE, Pa.eqb, cond_true, cond_false, Bool.not_true, Bool.not_false, Bool.and_true, Bool.true_and, nmL_vi, flV_len, flP_len, flV_nm, flV_ok, flV_pv, flP_map, drop_flP, drop_flV, putC_flV, eqV2, eqV3, bneT, bneF, decide_true, decide_false, frzL_vi, frzL_flV, nmE_ag, nmE_at, frzE_ag, frzE_at, ofAg_len, ofAt_len, atL_vi, nmL_map_p, frzL_map_p, okL_p, toPVs_p, repsZ, nmL_reps, putC_vi, get_flV0, get_flV1, Int.toNat_zero, Int.toNat_one, Int.reduceToNat, eqV_slice, eqV_ptr, eqV_func, nilS, nilP, nilF, nmL_append, true_or, or_true, and_self, true_and, and_true, Option.some.injEq, reduceCtorEq, false_or, or_false, VV.p.injEq, PV.at.injEq, Value.int.injEq, sl1, vi, bl1, vb, nilV, sl1, hss, List.map_append])
          (all_goals first | rfl | omega | exact ⟨rfl, by omega⟩)
      · have hf := hfin2 (.inl (by omega))
        rw [hf]
        clear hfin2 hss
        (repeat (first | refine VC.seq ?_ | refine VC.block ?_ | refine VC.kill ?_ | refine VC.skip ?_ | refine VC.exit ?_ | refine VC.regA ?_ | refine VC.condT ?_ | refine VC.condF ?_))
        refine VC.ret (Fin.frzA (cs := P.map pi) p89 (hb := rfl) (hc := toPVs_vi _) (Fin.frzA (cs := T.map pi) p61 (hb := rfl) (hc := by rw [frzL_vi]; exact toPVs_vi T) (Fin.frzA (cs := U.map pi) p56 (hb := rfl) (hc := by rw [frzL_vi, frzL_vi]; exact toPVs_vi U) (Fin.A ?_))))
        simp only [sl1, hul1, hcl1, hlk]; rfl
    · have hf := hfin2 (.inr (by omega))
      rw [hf]
      clear hfin2 hss
      (repeat (first | refine VC.seq ?_ | refine VC.block ?_ | refine VC.kill ?_ | refine VC.skip ?_ | refine VC.exit ?_ | refine VC.regA ?_ | refine VC.condT ?_ | refine VC.condF ?_))
      refine VC.ret (Fin.frzA (cs := P.map pi) p89 (hb := rfl) (hc := toPVs_vi _) (Fin.frzA (cs := T.map pi) p61 (hb := rfl) (hc := by rw [frzL_vi]; exact toPVs_vi T) (Fin.frzA (cs := U.map pi) p56 (hb := rfl) (hc := by rw [frzL_vi, frzL_vi]; exact toPVs_vi U) (Fin.A ?_))))
      simp only [sl1, hul1, hcl1, hlk]; rfl
end Go.Ab.Dues

namespace Go.Ab.Dues
open Go.Ab.V
set_option maxRecDepth 100000
end Go.Ab.Dues

namespace Go.Ab.Dues
open Go.Ab.V
set_option maxRecDepth 100000
end Go.Ab.Dues

namespace Go.Ab.Dues
open Go.Ab.V
set_option maxRecDepth 100000
/-! ### Orders -/
/-! ### Shares by an order -/
end Go.Ab.Dues

namespace Go.Ab.Dues
open Go.Ab.V
set_option maxRecDepth 100000
end Go.Ab.Dues

namespace Go.Ab.Dues
open Go.Ab.V
set_option maxRecDepth 100000
end Go.Ab.Dues

namespace Go.Ab.V
end Go.Ab.V
namespace Go.Ab.Dues
open Go.Ab.V
set_option maxRecDepth 100000
end Go.Ab.Dues

namespace Go.Ab.Dues
open Go.Ab.V
set_option maxRecDepth 100000
/-! ### Least, Greatest, Without -/
set_option maxHeartbeats 8000000 in
theorem Least_ok (c : Can) (h : okC c) (s : Nat) (hs : s < c.ships.length) :
    VCall cfg 45 [canV c, vi s] [] [] (.tup [.agg [vi (costS c (2 ^ c.ships.length - 1) - costS c (andN (2 ^ c.ships.length - 1) (2 ^ s))), vi 1], vi 0]) [] := by
  have h7 := h.s7
  have k1 := openShip_ok c h s hs
  have ka := all_ok c h.s7 (needK c c.ships.length)
  have hp0 : 0 < 2 ^ c.ships.length := Nat.pow_pos (by decide)
  have hp7 : 2 ^ c.ships.length ≤ 128 := (show 2 ^ c.ships.length ≤ 2 ^ 7 from Nat.pow_le_pow_right (by decide) h7)
  have hs7 : 2 ^ s < 2 ^ c.ships.length := Nat.pow_lt_pow_right (by decide) hs
  have han := andN_le (2 ^ c.ships.length - 1) (2 ^ s)
  have kc1 := cost_ok c h [] (fun q hq => by cases hq) (2 ^ c.ships.length - 1) (by omega)
  have kc2 := cost_ok c h (memo c [] (2 ^ c.ships.length - 1)) (okM_memo (fun q hq => by cases hq) _) (andN (2 ^ c.ships.length - 1) (2 ^ s)) (by omega)
  have kA0 := ka []
  have kA1 := ka (memo c [] (2 ^ c.ships.length - 1))
  have hb1 := costS_bd h (2 ^ c.ships.length - 1)
  have hb2 := costS_bd h (andN (2 ^ c.ships.length - 1) (2 ^ s))
  have hsh := shl_one (n := s) (by omega)
  have hmod : (s : Int) % 18446744073709551616 = (s : Int) := by omega
  have handn := andn_i64 (a := 2 ^ c.ships.length - 1) (b := 2 ^ s) (by omega) (by omega)
  have he : esM [] = [] := rfl
  rw [he] at kc1 kA0
  clear ka
  have e1 := es_nm (memo c [] (2 ^ c.ships.length - 1))
  generalize esM (memo c [] (2 ^ c.ships.length - 1)) = E1 at *
  have e2 := es_nm (memo c (memo c [] (2 ^ c.ships.length - 1)) (andN (2 ^ c.ships.length - 1) (2 ^ s)))
  generalize esM (memo c (memo c [] (2 ^ c.ships.length - 1)) (andN (2 ^ c.ships.length - 1) (2 ^ s))) = E2 at *
  have hnm := fl_nm c (needK c c.ships.length) p14
  generalize flC c (needK c c.ships.length) p14 = FL at *
  generalize costS c (2 ^ c.ships.length - 1) = x at *
  generalize costS c (andN (2 ^ c.ships.length - 1) (2 ^ s)) = y at *
  generalize andN (2 ^ c.ships.length - 1) (2 ^ s) = d at *
  generalize 2 ^ c.ships.length - 1 = A at *
  generalize 2 ^ s = w at *
  unfold canV at k1 ⊢
  (refine VCall.mk (fn := a45) rfl rfl rfl ?_; simp only [a45, inV, mkB, nmsL, PT.set])
  (repeat (first | refine VC.seq ?_ | refine VC.block ?_ | refine VC.kill ?_ | refine VC.skip ?_ | refine VC.exit ?_ | refine VC.regA ?_ | refine VC.condT ?_ | refine VC.condF ?_))
  refine VC.regCA ?_
  refine VO.moreA ?_
  refine VO.callN (no_orc 72 (by decide)) k1 rfl rfl rfl rfl rfl rfl ?_
  (simp only [filtN, filtNB, mkB, PT.set, VSt.put, PT.filt, noref, norefB, nos, nm, nmL, nmB, nmL_vi, nmL_map_p, nmE_ag, flV_nm, List.nil_append, List.append_nil, Pa.eqb, cond_true, cond_false, Bool.and_true, Bool.not_false, Bool.not_true])
  refine VO.endA ?_
  (repeat (first | refine VC.seq ?_ | refine VC.block ?_ | refine VC.kill ?_ | refine VC.skip ?_ | refine VC.exit ?_ | refine VC.regA ?_ | refine VC.condT ?_ | refine VC.condF ?_))
  refine VC.regCA ?_
  refine VO.moreA ?_
  refine VO.call [] [(p16, .cells FL), (p14, .map [])] (mkB [(p4, .cells [vi 0, vi 0])] .lf) rfl rfl (no_orc 57 (by decide)) kA0 trivial ?_ ?_ rfl rfl rfl rfl rfl rfl rfl ?_
  · simp [mkB, PT.set, PT.Le, VSt.kill]
  · simp [mkB, PT.set, PT.Le, VSt.kill, sl1, vi]
  (simp only [filtN, filtNB, mkB, PT.set, VSt.put, PT.filt, noref, norefB, nos, nm, nmL, nmB, nmL_vi, nmL_map_p, nmE_ag, flV_nm, List.nil_append, List.append_nil, Pa.eqb, cond_true, cond_false, Bool.and_true, Bool.not_false, Bool.not_true])
  refine VO.moreA ?_
  refine VO.call [] [(p16, .cells FL), (p14, .map [])] (mkB [(p4, .cells [vi 0, vi 0])] .lf) rfl rfl (no_orc 68 (by decide)) kc1 trivial ?_ ?_ rfl rfl rfl rfl rfl rfl rfl ?_
  · simp [mkB, PT.set, PT.Le, VSt.kill]
  · simp [mkB, PT.set, PT.Le, VSt.kill, sl1, vi]
  (simp only [filtN, filtNB, mkB, PT.set, VSt.put, PT.filt, noref, norefB, nos, nm, nmL, nmB, nmL_vi, nmL_map_p, nmE_ag, flV_nm, List.nil_append, List.append_nil, Pa.eqb, cond_true, cond_false, Bool.and_true, Bool.not_false, Bool.not_true])
  refine VO.moreA ?_
  refine VO.call [] [(p16, .cells FL), (p14, .map E1)] (mkB [(p4, .cells [vi 0, vi 0])] .lf) rfl rfl (no_orc 57 (by decide)) kA1 trivial ?_ ?_ rfl rfl rfl rfl rfl rfl rfl ?_
  · simp [mkB, PT.set, PT.Le, VSt.kill]
  · simp [mkB, PT.set, PT.Le, VSt.kill, sl1, vi]
  (simp only [filtN, filtNB, mkB, PT.set, VSt.put, PT.filt, noref, norefB, nos, nm, nmL, nmB, nmL_vi, nmL_map_p, nmE_ag, flV_nm, List.nil_append, List.append_nil, Pa.eqb, cond_true, cond_false, Bool.and_true, Bool.not_false, Bool.not_true])
  apply VO.upto
  · (simp (config := {decide := false, maxSteps := 1000000}) (disch := omega) only [vev_call, putC_c0, putC_n0, putC_cs, ble0, List.getElem?_cons_zero, List.getElem?_cons_succ, runU, isCall, wantV, vev, evV, ofVal, ofAtom, atomB, cond_true, cond_false, PT.get, PT.set, PT.filt, PT.map, Option.getD_some, Option.getD_none, ret1V, ret1X, v_ld, v_ias, v_iad, v_fad, v_slsl, v_slarr, v_st, v_app, v_cpy, v_clr, v_len, v_look, v_mset, elsV, partV, newV, free, atV, atI, atL, toVal, cellsV, okV, VSt.put, VSt.kill, VSt.alloc, VSt.frz, VSt.adopt, noref, norefB, deadB, deadV, nos, nm, nmL, nmB, nmE, Pa.eqb, Bool.not_false, Bool.not_true, Bool.and_true, Bool.true_and, Bool.false_and, Bool.and_false, bin, intOps, intBin, cvt, un, goInt, bndsV, bndV, Option.map_some, Option.map_none, List.map_cons, List.map_nil, Int.toNat_natCast, Nat.mul_one, Nat.zero_add, beq_true, beq_false, beq_self_eq_true, List.length_map, List.length_cons, List.length_nil, List.length_append, fillV, pEvV, repsV, List.append_nil, List.nil_append, if_pos, if_neg, reduceIte, List.getElem?_map, List.getElem?_drop, Nat.add_zero, List.getElem?_eq_getElem, Go.IntWalk.i64_in, wrap_u64, tmod_pos, eq_self, true_and, and_true, and_self, List.all_cons, List.all_nil, nmL_vi, flV_len, flP_len, flV_nm, flV_ok, flV_pv, flP_map, drop_flP, drop_flV, putC_flV, eqV2, eqV3, bneT, bneF, decide_true, decide_false, frzL_vi, frzL_flV, nmE_ag, nmE_at, frzE_ag, frzE_at, ofAg_len, ofAt_len, atL_vi, nmL_map_p, frzL_map_p, okL_p, toPVs_p, repsZ, nmL_reps, putC_vi, get_flV0, get_flV1, Int.toNat_zero, Int.toNat_one, Int.reduceToNat, eqV_slice, eqV_ptr, eqV_func, nilS, nilP, nilF, nmL_append, okL_vi, toPVs_vi, toPVs, toPV, frzV, frzL, frzB, resVV, vi, vb, nilV, sl1, bl1, pi, foldV, max2, min2, max_eq, min_eq, Int.tdiv_eq_ediv_of_nonneg, Int.cast_ofNat_Int, Option.isSome_none, Option.isSome_some, Option.isNone_none, Option.isNone_some, and_false, false_and, sl2, sl1P, slP, min_cast, take_map_pi, map_pi, Nat.sub_zero, Nat.zero_mul, List.length_take, decide_eq_true, decide_eq_false, Bool.true_eq_false, Bool.false_eq_true, beqT, beqF, ibeq, ibne, List.take_zero, List.take_succ_cons, List.drop_zero, List.drop_succ_cons, List.drop_nil, List.take_nil, List.cons_append, Bool.not_true, Bool.not_false, hmod, hsh, handn])
    rfl
  refine VO.call [] [(p16, .cells FL), (p14, .map E1)] (mkB [(p4, .cells [vi 0, vi 0])] .lf) rfl rfl (no_orc 68 (by decide)) kc2 trivial ?_ ?_ rfl rfl rfl rfl rfl rfl rfl ?_
  · simp [mkB, PT.set, PT.Le, VSt.kill]
  · simp [mkB, PT.set, PT.Le, VSt.kill, sl1, vi]
  (simp only [filtN, filtNB, mkB, PT.set, VSt.put, PT.filt, noref, norefB, nos, nm, nmL, nmB, nmL_vi, nmL_map_p, nmE_ag, flV_nm, List.nil_append, List.append_nil, Pa.eqb, cond_true, cond_false, Bool.and_true, Bool.not_false, Bool.not_true])
  refine VO.endA ?_
  (repeat (first | refine VC.seq ?_ | refine VC.block ?_ | refine VC.kill ?_ | refine VC.skip ?_ | refine VC.exit ?_ | refine VC.regA ?_ | refine VC.condT ?_ | refine VC.condF ?_))
  exact VC.ret (Fin.A rfl)
set_option maxHeartbeats 8000000 in
theorem Greatest_ok (c : Can) (h : okC c) (s : Nat) (hs : s < c.ships.length) :
    VCall cfg 46 [canV c, vi s] [] [] (.tup [.agg [vi (costS c (2 ^ s)), vi 1], vi 0]) [] := by
  have h7 := h.s7
  have k1 := openShip_ok c h s hs
  have hp7 : 2 ^ c.ships.length ≤ 128 := (show 2 ^ c.ships.length ≤ 2 ^ 7 from Nat.pow_le_pow_right (by decide) h7)
  have hs7 : 2 ^ s < 2 ^ c.ships.length := Nat.pow_lt_pow_right (by decide) hs
  have kc1 := cost_ok c h [] (fun q hq => by cases hq) (2 ^ s) hs7
  have hsh := shl_one (n := s) (by omega)
  have hmod : (s : Int) % 18446744073709551616 = (s : Int) := by omega
  have he : esM [] = [] := rfl
  rw [he] at kc1
  have e1 := es_nm (memo c [] (2 ^ s))
  generalize esM (memo c [] (2 ^ s)) = E1 at *
  have hnm := fl_nm c (needK c c.ships.length) p14
  generalize flC c (needK c c.ships.length) p14 = FL at *
  generalize costS c (2 ^ s) = x at *
  generalize 2 ^ s = w at *
  unfold canV at k1 ⊢
  (refine VCall.mk (fn := a46) rfl rfl rfl ?_; simp only [a46, inV, mkB, nmsL, PT.set])
  (repeat (first | refine VC.seq ?_ | refine VC.block ?_ | refine VC.kill ?_ | refine VC.skip ?_ | refine VC.exit ?_ | refine VC.regA ?_ | refine VC.condT ?_ | refine VC.condF ?_))
  refine VC.regCA ?_
  refine VO.moreA ?_
  refine VO.callN (no_orc 72 (by decide)) k1 rfl rfl rfl rfl rfl rfl ?_
  (simp only [filtN, filtNB, mkB, PT.set, VSt.put, PT.filt, noref, norefB, nos, nm, nmL, nmB, nmL_vi, nmL_map_p, nmE_ag, flV_nm, List.nil_append, List.append_nil, Pa.eqb, cond_true, cond_false, Bool.and_true, Bool.not_false, Bool.not_true])
  refine VO.endA ?_
  (repeat (first | refine VC.seq ?_ | refine VC.block ?_ | refine VC.kill ?_ | refine VC.skip ?_ | refine VC.exit ?_ | refine VC.regA ?_ | refine VC.condT ?_ | refine VC.condF ?_))
  apply VC.regC
  · (simp (config := {decide := false, maxSteps := 1000000}) (disch := omega) only [vev_call, putC_c0, putC_n0, putC_cs, ble0, List.getElem?_cons_zero, List.getElem?_cons_succ, runU, isCall, wantV, vev, evV, ofVal, ofAtom, atomB, cond_true, cond_false, PT.get, PT.set, PT.filt, PT.map, Option.getD_some, Option.getD_none, ret1V, ret1X, v_ld, v_ias, v_iad, v_fad, v_slsl, v_slarr, v_st, v_app, v_cpy, v_clr, v_len, v_look, v_mset, elsV, partV, newV, free, atV, atI, atL, toVal, cellsV, okV, VSt.put, VSt.kill, VSt.alloc, VSt.frz, VSt.adopt, noref, norefB, deadB, deadV, nos, nm, nmL, nmB, nmE, Pa.eqb, Bool.not_false, Bool.not_true, Bool.and_true, Bool.true_and, Bool.false_and, Bool.and_false, bin, intOps, intBin, cvt, un, goInt, bndsV, bndV, Option.map_some, Option.map_none, List.map_cons, List.map_nil, Int.toNat_natCast, Nat.mul_one, Nat.zero_add, beq_true, beq_false, beq_self_eq_true, List.length_map, List.length_cons, List.length_nil, List.length_append, fillV, pEvV, repsV, List.append_nil, List.nil_append, if_pos, if_neg, reduceIte, List.getElem?_map, List.getElem?_drop, Nat.add_zero, List.getElem?_eq_getElem, Go.IntWalk.i64_in, wrap_u64, tmod_pos, eq_self, true_and, and_true, and_self, List.all_cons, List.all_nil, nmL_vi, flV_len, flP_len, flV_nm, flV_ok, flV_pv, flP_map, drop_flP, drop_flV, putC_flV, eqV2, eqV3, bneT, bneF, decide_true, decide_false, frzL_vi, frzL_flV, nmE_ag, nmE_at, frzE_ag, frzE_at, ofAg_len, ofAt_len, atL_vi, nmL_map_p, frzL_map_p, okL_p, toPVs_p, repsZ, nmL_reps, putC_vi, get_flV0, get_flV1, Int.toNat_zero, Int.toNat_one, Int.reduceToNat, eqV_slice, eqV_ptr, eqV_func, nilS, nilP, nilF, nmL_append, okL_vi, toPVs_vi, toPVs, toPV, frzV, frzL, frzB, resVV, vi, vb, nilV, sl1, bl1, pi, foldV, max2, min2, max_eq, min_eq, Int.tdiv_eq_ediv_of_nonneg, Int.cast_ofNat_Int, Option.isSome_none, Option.isSome_some, Option.isNone_none, Option.isNone_some, and_false, false_and, sl2, sl1P, slP, min_cast, take_map_pi, map_pi, Nat.sub_zero, Nat.zero_mul, List.length_take, decide_eq_true, decide_eq_false, Bool.true_eq_false, Bool.false_eq_true, beqT, beqF, ibeq, ibne, List.take_zero, List.take_succ_cons, List.drop_zero, List.drop_succ_cons, List.drop_nil, List.take_nil, List.cons_append, Bool.not_true, Bool.not_false, hmod, hsh])
    rfl
  refine VO.call [] [(p16, .cells FL), (p14, .map [])] (mkB [(p4, .cells [vi 0, vi 0])] .lf) rfl rfl (no_orc 68 (by decide)) kc1 trivial ?_ ?_ rfl rfl rfl rfl rfl rfl rfl ?_
  · simp [mkB, PT.set, PT.Le, VSt.kill]
  · simp [mkB, PT.set, PT.Le, VSt.kill, sl1, vi]
  (simp only [filtN, filtNB, mkB, PT.set, VSt.put, PT.filt, noref, norefB, nos, nm, nmL, nmB, nmL_vi, nmL_map_p, nmE_ag, flV_nm, List.nil_append, List.append_nil, Pa.eqb, cond_true, cond_false, Bool.and_true, Bool.not_false, Bool.not_true])
  refine VO.endA ?_
  (repeat (first | refine VC.seq ?_ | refine VC.block ?_ | refine VC.kill ?_ | refine VC.skip ?_ | refine VC.exit ?_ | refine VC.regA ?_ | refine VC.condT ?_ | refine VC.condF ?_))
  exact VC.ret (Fin.A rfl)
end Go.Ab.Dues

namespace Go.Ab.Dues
open Go.Ab.V
set_option maxRecDepth 100000
theorem CloneO_ok (l : List Int) (h0 : 1 ≤ l.length) (hl : l.length ≤ 1000) : VCall cfg 73 [sl1 l] [] [p5] (.os 1 p5 l.length) [(p5, bl1 l)] := by
  (refine VCall.mk (fn := a73) rfl rfl rfl ?_; simp only [a73, inV, mkB, nmsL, PT.set])
  have h : l.length ≠ 0 := by omega
  (repeat (first | refine VC.seq ?_ | refine VC.block ?_ | refine VC.kill ?_ | refine VC.skip ?_ | refine VC.exit ?_ | refine VC.regA ?_ | refine VC.condT ?_ | refine VC.condF ?_))
  refine VC.ret (Fin.of rfl rfl ?_ rfl rfl ?_)
  · simp [mkB, PT.set, PT.Le, VSt.kill, bl1]
  · simp [subs, nm, nmL, nmsB, nmB, bl1, nmL_vi, nos, Pa.eqb, vi]
theorem CloneI_ok (l : List Int) (h0 : 1 ≤ l.length) (hl : l.length ≤ 1000) : VCall cfg 73 [sl1 l] [] [] (sl1 l) [] := by
  (refine VCall.mk (fn := a73) rfl rfl rfl ?_; simp only [a73, inV, mkB, nmsL, PT.set])
  have h : l.length ≠ 0 := by omega
  (repeat (first | refine VC.seq ?_ | refine VC.block ?_ | refine VC.kill ?_ | refine VC.skip ?_ | refine VC.exit ?_ | refine VC.regA ?_ | refine VC.condT ?_ | refine VC.condF ?_))
  exact VC.ret (Fin.frzA p5 (hb := rfl) (hc := toPVs_vi l) (Fin.A rfl))
/-- What lies there after one is deleted. -/
def delA (l : List Int) (s : Nat) : List Int := l.take s ++ l.drop (s + 1) ++ l.drop (l.length - 1)
theorem delA_len (l : List Int) (s : Nat) (hs : s < l.length) : (delA l s).length = l.length := by
  unfold delA; rw [List.length_append, List.length_append, List.length_take, List.length_drop, List.length_drop]; omega
theorem del_put (l : List Int) (s : Nat) (hs : s < l.length) : putC (l.map vi) s ((l.drop (s + 1)).map vi) = (delA l s).map vi := by
  unfold putC delA
  rw [← List.map_take, ← List.map_drop, List.map_append, List.map_append, List.append_assoc]
  congr 3
  rw [List.length_map, List.length_drop]
  congr 1; omega
theorem delA_set (l : List Int) (s : Nat) (hs : s < l.length) : (delA l s).set (l.length - 1) 0 = l.eraseIdx s ++ [0] := by
  have hl : (l.take s ++ l.drop (s + 1)).length = l.length - 1 := by rw [List.length_append, List.length_take, List.length_drop]; omega
  have hl2 : (l.drop (l.length - 1)).length = 1 := by rw [List.length_drop]; omega
  obtain ⟨x, hx⟩ := List.length_eq_one_iff.1 hl2
  unfold delA
  rw [List.eraseIdx_eq_take_drop_succ, hx, List.set_append_right _ _ (by omega), hl, Nat.sub_self]
  rfl
set_option maxHeartbeats 4000000 in
theorem Delete_ok (l : List Int) (s : Nat) (hs : s < l.length) (hl : l.length ≤ 1000) : VCall cfg 74 [.os 1 p5 l.length, vi s, vi ((s + 1 : Nat) : Int)] [(p5, bl1 l)] [] (.ob 1 p5 0 (l.length - 1) l.length) [(p5, bl1 (l.eraseIdx s ++ [0]))] := by
  have hd := del_put l s hs
  have hdl := delA_len l s hs
  have hds := delA_set l s hs
  unfold bl1
  generalize l.eraseIdx s ++ [0] = E at *
  (refine VCall.mk (fn := a74) rfl rfl rfl ?_; simp only [a74, inV, mkB, nmsL, PT.set])
  by_cases hlast : s + 1 = l.length
  · have hz : l.drop (s + 1) = [] := List.drop_of_length_le (by omega)
    have hA : delA l s = l := by
      unfold delA
      rw [hz, List.append_nil, show l.length - 1 = s from by omega, List.take_append_drop]
    rw [hA] at hds
    have hs1 : l.length - s = 1 := by omega
    have hs2 : l.length - 1 = s := by omega
    rw [hs2] at hds ⊢
    (repeat (first | refine VC.seq ?_ | refine VC.block ?_ | refine VC.kill ?_ | refine VC.skip ?_ | refine VC.exit ?_ | refine VC.regA ?_ | refine VC.condT ?_ | refine VC.condF ?_))
    ((try (apply VC.regU; · ((simp (config := {decide := false, maxSteps := 1000000}) (disch := omega) only [vev_call, putC_c0, putC_n0, putC_cs, ble0, List.getElem?_cons_zero, List.getElem?_cons_succ, runU, isCall, wantV, vev, evV, ofVal, ofAtom, atomB, cond_true, cond_false, PT.get, PT.set, PT.filt, PT.map, Option.getD_some, Option.getD_none, ret1V, ret1X, v_ld, v_ias, v_iad, v_fad, v_slsl, v_slarr, v_st, v_app, v_cpy, v_clr, v_len, v_look, v_mset, elsV, partV, newV, free, atV, atI, atL, toVal, cellsV, okV, VSt.put, VSt.kill, VSt.alloc, VSt.frz, VSt.adopt, noref, norefB, deadB, deadV, nos, nm, nmL, nmB, nmE, Pa.eqb, Bool.not_false, Bool.not_true, Bool.and_true, Bool.true_and, Bool.false_and, Bool.and_false, bin, intOps, intBin, cvt, un, goInt, bndsV, bndV, Option.map_some, Option.map_none, List.map_cons, List.map_nil, Int.toNat_natCast, Nat.mul_one, Nat.zero_add, beq_true, beq_false, beq_self_eq_true, List.length_map, List.length_cons, List.length_nil, List.length_append, fillV, pEvV, repsV, List.append_nil, List.nil_append, if_pos, if_neg, reduceIte, List.getElem?_map, List.getElem?_drop, Nat.add_zero, List.getElem?_eq_getElem, Go.IntWalk.i64_in, wrap_u64, tmod_pos, eq_self, true_and, and_true, and_self, List.all_cons, List.all_nil, nmL_vi, flV_len, flP_len, flV_nm, flV_ok, flV_pv, flP_map, drop_flP, drop_flV, putC_flV, eqV2, eqV3, bneT, bneF, decide_true, decide_false, frzL_vi, frzL_flV, nmE_ag, nmE_at, frzE_ag, frzE_at, ofAg_len, ofAt_len, atL_vi, nmL_map_p, frzL_map_p, okL_p, toPVs_p, repsZ, nmL_reps, putC_vi, get_flV0, get_flV1, Int.toNat_zero, Int.toNat_one, Int.reduceToNat, eqV_slice, eqV_ptr, eqV_func, nilS, nilP, nilF, nmL_append, okL_vi, toPVs_vi, toPVs, toPV, frzV, frzL, frzB, resVV, vi, vb, nilV, sl1, bl1, pi, foldV, max2, min2, max_eq, min_eq, Int.tdiv_eq_ediv_of_nonneg, Int.cast_ofNat_Int, Option.isSome_none, Option.isSome_some, Option.isNone_none, Option.isNone_some, and_false, false_and, sl2, sl1P, slP, min_cast, take_map_pi, map_pi, Nat.sub_zero, Nat.zero_mul, List.length_take, decide_eq_true, decide_eq_false, Bool.true_eq_false, Bool.false_eq_true, beqT, beqF, ibeq, ibne, List.take_zero, List.take_succ_cons, List.drop_zero, List.drop_succ_cons, List.drop_nil, List.take_nil, List.cons_append, Bool.not_true, Bool.not_false, ← List.map_drop, ← List.map_take, List.length_drop]); rfl))); (repeat (first | refine VC.seq ?_ | refine VC.block ?_ | refine VC.kill ?_ | refine VC.skip ?_ | refine VC.exit ?_ | refine VC.regA ?_ | refine VC.condT ?_ | refine VC.condF ?_)))
    ((try (apply VC.regU; · ((simp (config := {decide := false, maxSteps := 1000000}) (disch := omega) only [vev_call, putC_c0, putC_n0, putC_cs, ble0, List.getElem?_cons_zero, List.getElem?_cons_succ, runU, isCall, wantV, vev, evV, ofVal, ofAtom, atomB, cond_true, cond_false, PT.get, PT.set, PT.filt, PT.map, Option.getD_some, Option.getD_none, ret1V, ret1X, v_ld, v_ias, v_iad, v_fad, v_slsl, v_slarr, v_st, v_app, v_cpy, v_clr, v_len, v_look, v_mset, elsV, partV, newV, free, atV, atI, atL, toVal, cellsV, okV, VSt.put, VSt.kill, VSt.alloc, VSt.frz, VSt.adopt, noref, norefB, deadB, deadV, nos, nm, nmL, nmB, nmE, Pa.eqb, Bool.not_false, Bool.not_true, Bool.and_true, Bool.true_and, Bool.false_and, Bool.and_false, bin, intOps, intBin, cvt, un, goInt, bndsV, bndV, Option.map_some, Option.map_none, List.map_cons, List.map_nil, Int.toNat_natCast, Nat.mul_one, Nat.zero_add, beq_true, beq_false, beq_self_eq_true, List.length_map, List.length_cons, List.length_nil, List.length_append, fillV, pEvV, repsV, List.append_nil, List.nil_append, if_pos, if_neg, reduceIte, List.getElem?_map, List.getElem?_drop, Nat.add_zero, List.getElem?_eq_getElem, Go.IntWalk.i64_in, wrap_u64, tmod_pos, eq_self, true_and, and_true, and_self, List.all_cons, List.all_nil, nmL_vi, flV_len, flP_len, flV_nm, flV_ok, flV_pv, flP_map, drop_flP, drop_flV, putC_flV, eqV2, eqV3, bneT, bneF, decide_true, decide_false, frzL_vi, frzL_flV, nmE_ag, nmE_at, frzE_ag, frzE_at, ofAg_len, ofAt_len, atL_vi, nmL_map_p, frzL_map_p, okL_p, toPVs_p, repsZ, nmL_reps, putC_vi, get_flV0, get_flV1, Int.toNat_zero, Int.toNat_one, Int.reduceToNat, eqV_slice, eqV_ptr, eqV_func, nilS, nilP, nilF, nmL_append, okL_vi, toPVs_vi, toPVs, toPV, frzV, frzL, frzB, resVV, vi, vb, nilV, sl1, bl1, pi, foldV, max2, min2, max_eq, min_eq, Int.tdiv_eq_ediv_of_nonneg, Int.cast_ofNat_Int, Option.isSome_none, Option.isSome_some, Option.isNone_none, Option.isNone_some, and_false, false_and, sl2, sl1P, slP, min_cast, take_map_pi, map_pi, Nat.sub_zero, Nat.zero_mul, List.length_take, decide_eq_true, decide_eq_false, Bool.true_eq_false, Bool.false_eq_true, beqT, beqF, ibeq, ibne, List.take_zero, List.take_succ_cons, List.drop_zero, List.drop_succ_cons, List.drop_nil, List.take_nil, List.cons_append, Bool.not_true, Bool.not_false, hs1, hds]); rfl))); (repeat (first | refine VC.seq ?_ | refine VC.block ?_ | refine VC.kill ?_ | refine VC.skip ?_ | refine VC.exit ?_ | refine VC.regA ?_ | refine VC.condT ?_ | refine VC.condF ?_)))
    refine VC.ret (Fin.of rfl rfl ?_ rfl rfl ?_)
    · simp [mkB, PT.set, PT.Le, VSt.kill, hds]
    · simp [subs, nm, nmL, nmsB, nmB, nmL_vi, nos, Pa.eqb, hds]
  · have hs1 : s + (l.length - (s + 1)) = l.length - 1 := by omega
    have hs2 : l.length - (l.length - 1) = 1 := by omega
    have e1 : List.take (l.length - (s + 1)) (l.drop (s + 1)) = l.drop (s + 1) := List.take_of_length_le (by simp)
    generalize delA l s = A at *
    (repeat (first | refine VC.seq ?_ | refine VC.block ?_ | refine VC.kill ?_ | refine VC.skip ?_ | refine VC.exit ?_ | refine VC.regA ?_ | refine VC.condT ?_ | refine VC.condF ?_))
    ((try (apply VC.regU; · ((simp (config := {decide := false, maxSteps := 1000000}) (disch := omega) only [vev_call, putC_c0, putC_n0, putC_cs, ble0, List.getElem?_cons_zero, List.getElem?_cons_succ, runU, isCall, wantV, vev, evV, ofVal, ofAtom, atomB, cond_true, cond_false, PT.get, PT.set, PT.filt, PT.map, Option.getD_some, Option.getD_none, ret1V, ret1X, v_ld, v_ias, v_iad, v_fad, v_slsl, v_slarr, v_st, v_app, v_cpy, v_clr, v_len, v_look, v_mset, elsV, partV, newV, free, atV, atI, atL, toVal, cellsV, okV, VSt.put, VSt.kill, VSt.alloc, VSt.frz, VSt.adopt, noref, norefB, deadB, deadV, nos, nm, nmL, nmB, nmE, Pa.eqb, Bool.not_false, Bool.not_true, Bool.and_true, Bool.true_and, Bool.false_and, Bool.and_false, bin, intOps, intBin, cvt, un, goInt, bndsV, bndV, Option.map_some, Option.map_none, List.map_cons, List.map_nil, Int.toNat_natCast, Nat.mul_one, Nat.zero_add, beq_true, beq_false, beq_self_eq_true, List.length_map, List.length_cons, List.length_nil, List.length_append, fillV, pEvV, repsV, List.append_nil, List.nil_append, if_pos, if_neg, reduceIte, List.getElem?_map, List.getElem?_drop, Nat.add_zero, List.getElem?_eq_getElem, Go.IntWalk.i64_in, wrap_u64, tmod_pos, eq_self, true_and, and_true, and_self, List.all_cons, List.all_nil, nmL_vi, flV_len, flP_len, flV_nm, flV_ok, flV_pv, flP_map, drop_flP, drop_flV, putC_flV, eqV2, eqV3, bneT, bneF, decide_true, decide_false, frzL_vi, frzL_flV, nmE_ag, nmE_at, frzE_ag, frzE_at, ofAg_len, ofAt_len, atL_vi, nmL_map_p, frzL_map_p, okL_p, toPVs_p, repsZ, nmL_reps, putC_vi, get_flV0, get_flV1, Int.toNat_zero, Int.toNat_one, Int.reduceToNat, eqV_slice, eqV_ptr, eqV_func, nilS, nilP, nilF, nmL_append, okL_vi, toPVs_vi, toPVs, toPV, frzV, frzL, frzB, resVV, vi, vb, nilV, sl1, bl1, pi, foldV, max2, min2, max_eq, min_eq, Int.tdiv_eq_ediv_of_nonneg, Int.cast_ofNat_Int, Option.isSome_none, Option.isSome_some, Option.isNone_none, Option.isNone_some, and_false, false_and, sl2, sl1P, slP, min_cast, take_map_pi, map_pi, Nat.sub_zero, Nat.zero_mul, List.length_take, decide_eq_true, decide_eq_false, Bool.true_eq_false, Bool.false_eq_true, beqT, beqF, ibeq, ibne, List.take_zero, List.take_succ_cons, List.drop_zero, List.drop_succ_cons, List.drop_nil, List.take_nil, List.cons_append, Bool.not_true, Bool.not_false, ← List.map_drop, ← List.map_take, List.length_drop, e1, hd]); rfl))); (repeat (first | refine VC.seq ?_ | refine VC.block ?_ | refine VC.kill ?_ | refine VC.skip ?_ | refine VC.exit ?_ | refine VC.regA ?_ | refine VC.condT ?_ | refine VC.condF ?_)))
    rw [hs1]
    ((try (apply VC.regU; · ((simp (config := {decide := false, maxSteps := 1000000}) (disch := omega) only [vev_call, putC_c0, putC_n0, putC_cs, ble0, List.getElem?_cons_zero, List.getElem?_cons_succ, runU, isCall, wantV, vev, evV, ofVal, ofAtom, atomB, cond_true, cond_false, PT.get, PT.set, PT.filt, PT.map, Option.getD_some, Option.getD_none, ret1V, ret1X, v_ld, v_ias, v_iad, v_fad, v_slsl, v_slarr, v_st, v_app, v_cpy, v_clr, v_len, v_look, v_mset, elsV, partV, newV, free, atV, atI, atL, toVal, cellsV, okV, VSt.put, VSt.kill, VSt.alloc, VSt.frz, VSt.adopt, noref, norefB, deadB, deadV, nos, nm, nmL, nmB, nmE, Pa.eqb, Bool.not_false, Bool.not_true, Bool.and_true, Bool.true_and, Bool.false_and, Bool.and_false, bin, intOps, intBin, cvt, un, goInt, bndsV, bndV, Option.map_some, Option.map_none, List.map_cons, List.map_nil, Int.toNat_natCast, Nat.mul_one, Nat.zero_add, beq_true, beq_false, beq_self_eq_true, List.length_map, List.length_cons, List.length_nil, List.length_append, fillV, pEvV, repsV, List.append_nil, List.nil_append, if_pos, if_neg, reduceIte, List.getElem?_map, List.getElem?_drop, Nat.add_zero, List.getElem?_eq_getElem, Go.IntWalk.i64_in, wrap_u64, tmod_pos, eq_self, true_and, and_true, and_self, List.all_cons, List.all_nil, nmL_vi, flV_len, flP_len, flV_nm, flV_ok, flV_pv, flP_map, drop_flP, drop_flV, putC_flV, eqV2, eqV3, bneT, bneF, decide_true, decide_false, frzL_vi, frzL_flV, nmE_ag, nmE_at, frzE_ag, frzE_at, ofAg_len, ofAt_len, atL_vi, nmL_map_p, frzL_map_p, okL_p, toPVs_p, repsZ, nmL_reps, putC_vi, get_flV0, get_flV1, Int.toNat_zero, Int.toNat_one, Int.reduceToNat, eqV_slice, eqV_ptr, eqV_func, nilS, nilP, nilF, nmL_append, okL_vi, toPVs_vi, toPVs, toPV, frzV, frzL, frzB, resVV, vi, vb, nilV, sl1, bl1, pi, foldV, max2, min2, max_eq, min_eq, Int.tdiv_eq_ediv_of_nonneg, Int.cast_ofNat_Int, Option.isSome_none, Option.isSome_some, Option.isNone_none, Option.isNone_some, and_false, false_and, sl2, sl1P, slP, min_cast, take_map_pi, map_pi, Nat.sub_zero, Nat.zero_mul, List.length_take, decide_eq_true, decide_eq_false, Bool.true_eq_false, Bool.false_eq_true, beqT, beqF, ibeq, ibne, List.take_zero, List.take_succ_cons, List.drop_zero, List.drop_succ_cons, List.drop_nil, List.take_nil, List.cons_append, Bool.not_true, Bool.not_false, hs2, hds]); rfl))); (repeat (first | refine VC.seq ?_ | refine VC.block ?_ | refine VC.kill ?_ | refine VC.skip ?_ | refine VC.exit ?_ | refine VC.regA ?_ | refine VC.condT ?_ | refine VC.condF ?_)))
    refine VC.ret (Fin.of rfl rfl ?_ rfl rfl ?_)
    · simp [mkB, PT.set, PT.Le, VSt.kill, hds]
    · simp [subs, nm, nmL, nmsB, nmB, nmL_vi, nos, Pa.eqb, hds]
/-- The canal without a ship. -/
def canW (c : Can) (s : Nat) : Can := ⟨c.up, c.cost, c.ships.eraseIdx s⟩
set_option maxHeartbeats 4000000 in
theorem Without_ok (c : Can) (h : okC c) (s : Nat) (hs : s < c.ships.length) : VCall cfg 44 [canV c, vi s] [] [] (.tup [canV (canW c s), vi 0]) [] := by
  have h7 := h.s7
  have h10 := h.n10
  have hn1 := h.n1
  have hcl := h.cl
  have k1 := openShip_ok c h s hs
  have hnm := fl_nm c (needK c c.ships.length) p14
  generalize flC c (needK c c.ships.length) p14 = FL at *
  have k2 := CloneI_ok c.up (by omega) (by omega)
  have k3 := CloneI_ok c.cost (by omega) (by omega)
  have k4 := CloneO_ok c.ships (by omega) (by omega)
  have k5 := Delete_ok c.ships s hs (by omega)
  have hel : (c.ships.eraseIdx s).length = c.ships.length - 1 := by rw [List.length_eraseIdx_of_lt hs]
  unfold canV canW at *
  (refine VCall.mk (fn := a44) rfl rfl rfl ?_; simp only [a44, inV, mkB, nmsL, PT.set])
  (repeat (first | refine VC.seq ?_ | refine VC.block ?_ | refine VC.kill ?_ | refine VC.skip ?_ | refine VC.exit ?_ | refine VC.regA ?_ | refine VC.condT ?_ | refine VC.condF ?_))
  refine VC.regCA ?_
  refine VO.moreA ?_
  refine VO.callN (no_orc 72 (by decide)) k1 rfl rfl rfl rfl rfl rfl ?_
  (simp only [filtN, filtNB, mkB, PT.set, VSt.put, PT.filt, noref, norefB, nos, nm, nmL, nmB, nmL_vi, nmL_map_p, nmE_ag, flV_nm, List.nil_append, List.append_nil, Pa.eqb, cond_true, cond_false, Bool.and_true, Bool.not_false, Bool.not_true])
  refine VO.endA ?_
  (repeat (first | refine VC.seq ?_ | refine VC.block ?_ | refine VC.kill ?_ | refine VC.skip ?_ | refine VC.exit ?_ | refine VC.regA ?_ | refine VC.condT ?_ | refine VC.condF ?_))
  refine VC.planP [p2] rfl ?_
  (apply VPl.run; · ((simp (config := {decide := false, maxSteps := 1000000}) (disch := omega) only [vev_call, putC_c0, putC_n0, putC_cs, ble0, List.getElem?_cons_zero, List.getElem?_cons_succ, runU, isCall, wantV, vev, evV, ofVal, ofAtom, atomB, cond_true, cond_false, PT.get, PT.set, PT.filt, PT.map, Option.getD_some, Option.getD_none, ret1V, ret1X, v_ld, v_ias, v_iad, v_fad, v_slsl, v_slarr, v_st, v_app, v_cpy, v_clr, v_len, v_look, v_mset, elsV, partV, newV, free, atV, atI, atL, toVal, cellsV, okV, VSt.put, VSt.kill, VSt.alloc, VSt.frz, VSt.adopt, noref, norefB, deadB, deadV, nos, nm, nmL, nmB, nmE, Pa.eqb, Bool.not_false, Bool.not_true, Bool.and_true, Bool.true_and, Bool.false_and, Bool.and_false, bin, intOps, intBin, cvt, un, goInt, bndsV, bndV, Option.map_some, Option.map_none, List.map_cons, List.map_nil, Int.toNat_natCast, Nat.mul_one, Nat.zero_add, beq_true, beq_false, beq_self_eq_true, List.length_map, List.length_cons, List.length_nil, List.length_append, fillV, pEvV, repsV, List.append_nil, List.nil_append, if_pos, if_neg, reduceIte, List.getElem?_map, List.getElem?_drop, Nat.add_zero, List.getElem?_eq_getElem, Go.IntWalk.i64_in, wrap_u64, tmod_pos, eq_self, true_and, and_true, and_self, List.all_cons, List.all_nil, nmL_vi, flV_len, flP_len, flV_nm, flV_ok, flV_pv, flP_map, drop_flP, drop_flV, putC_flV, eqV2, eqV3, bneT, bneF, decide_true, decide_false, frzL_vi, frzL_flV, nmE_ag, nmE_at, frzE_ag, frzE_at, ofAg_len, ofAt_len, atL_vi, nmL_map_p, frzL_map_p, okL_p, toPVs_p, repsZ, nmL_reps, putC_vi, get_flV0, get_flV1, Int.toNat_zero, Int.toNat_one, Int.reduceToNat, eqV_slice, eqV_ptr, eqV_func, nilS, nilP, nilF, nmL_append, okL_vi, toPVs_vi, toPVs, toPV, frzV, frzL, frzB, resVV, vi, vb, nilV, sl1, bl1, pi, foldV, max2, min2, max_eq, min_eq, Int.tdiv_eq_ediv_of_nonneg, Int.cast_ofNat_Int, Option.isSome_none, Option.isSome_some, Option.isNone_none, Option.isNone_some, and_false, false_and, sl2, sl1P, slP, min_cast, take_map_pi, map_pi, Nat.sub_zero, Nat.zero_mul, List.length_take, decide_eq_true, decide_eq_false, Bool.true_eq_false, Bool.false_eq_true, beqT, beqF, ibeq, ibne, List.take_zero, List.take_succ_cons, List.drop_zero, List.drop_succ_cons, List.drop_nil, List.take_nil, List.cons_append, Bool.not_true, Bool.not_false, runP, pur, lookB, okPl, okPl1, List.any_cons, List.any_nil, Nat.reduceBEq, Nat.reduceEqDiff, beq_self_eq_true, Bool.or_false, Bool.or_true, Bool.false_or, Bool.true_or, Bool.not_true, Bool.not_false, Bool.and_true, Bool.true_and, Nat.zero_add, Nat.reduceAdd, nos, Pa.eqb]); rfl))
  refine VPl.call (no_orc 73 (by decide)) k2 rfl rfl rfl rfl ?_
  (apply VPl.run; · ((simp (config := {decide := false, maxSteps := 1000000}) (disch := omega) only [vev_call, putC_c0, putC_n0, putC_cs, ble0, List.getElem?_cons_zero, List.getElem?_cons_succ, runU, isCall, wantV, vev, evV, ofVal, ofAtom, atomB, cond_true, cond_false, PT.get, PT.set, PT.filt, PT.map, Option.getD_some, Option.getD_none, ret1V, ret1X, v_ld, v_ias, v_iad, v_fad, v_slsl, v_slarr, v_st, v_app, v_cpy, v_clr, v_len, v_look, v_mset, elsV, partV, newV, free, atV, atI, atL, toVal, cellsV, okV, VSt.put, VSt.kill, VSt.alloc, VSt.frz, VSt.adopt, noref, norefB, deadB, deadV, nos, nm, nmL, nmB, nmE, Pa.eqb, Bool.not_false, Bool.not_true, Bool.and_true, Bool.true_and, Bool.false_and, Bool.and_false, bin, intOps, intBin, cvt, un, goInt, bndsV, bndV, Option.map_some, Option.map_none, List.map_cons, List.map_nil, Int.toNat_natCast, Nat.mul_one, Nat.zero_add, beq_true, beq_false, beq_self_eq_true, List.length_map, List.length_cons, List.length_nil, List.length_append, fillV, pEvV, repsV, List.append_nil, List.nil_append, if_pos, if_neg, reduceIte, List.getElem?_map, List.getElem?_drop, Nat.add_zero, List.getElem?_eq_getElem, Go.IntWalk.i64_in, wrap_u64, tmod_pos, eq_self, true_and, and_true, and_self, List.all_cons, List.all_nil, nmL_vi, flV_len, flP_len, flV_nm, flV_ok, flV_pv, flP_map, drop_flP, drop_flV, putC_flV, eqV2, eqV3, bneT, bneF, decide_true, decide_false, frzL_vi, frzL_flV, nmE_ag, nmE_at, frzE_ag, frzE_at, ofAg_len, ofAt_len, atL_vi, nmL_map_p, frzL_map_p, okL_p, toPVs_p, repsZ, nmL_reps, putC_vi, get_flV0, get_flV1, Int.toNat_zero, Int.toNat_one, Int.reduceToNat, eqV_slice, eqV_ptr, eqV_func, nilS, nilP, nilF, nmL_append, okL_vi, toPVs_vi, toPVs, toPV, frzV, frzL, frzB, resVV, vi, vb, nilV, sl1, bl1, pi, foldV, max2, min2, max_eq, min_eq, Int.tdiv_eq_ediv_of_nonneg, Int.cast_ofNat_Int, Option.isSome_none, Option.isSome_some, Option.isNone_none, Option.isNone_some, and_false, false_and, sl2, sl1P, slP, min_cast, take_map_pi, map_pi, Nat.sub_zero, Nat.zero_mul, List.length_take, decide_eq_true, decide_eq_false, Bool.true_eq_false, Bool.false_eq_true, beqT, beqF, ibeq, ibne, List.take_zero, List.take_succ_cons, List.drop_zero, List.drop_succ_cons, List.drop_nil, List.take_nil, List.cons_append, Bool.not_true, Bool.not_false, runP, pur, lookB, okPl, okPl1, List.any_cons, List.any_nil, Nat.reduceBEq, Nat.reduceEqDiff, beq_self_eq_true, Bool.or_false, Bool.or_true, Bool.false_or, Bool.true_or, Bool.not_true, Bool.not_false, Bool.and_true, Bool.true_and, Nat.zero_add, Nat.reduceAdd, nos, Pa.eqb]); rfl))
  refine VPl.call (no_orc 73 (by decide)) k3 rfl rfl rfl rfl ?_
  (apply VPl.run; · ((simp (config := {decide := false, maxSteps := 1000000}) (disch := omega) only [vev_call, putC_c0, putC_n0, putC_cs, ble0, List.getElem?_cons_zero, List.getElem?_cons_succ, runU, isCall, wantV, vev, evV, ofVal, ofAtom, atomB, cond_true, cond_false, PT.get, PT.set, PT.filt, PT.map, Option.getD_some, Option.getD_none, ret1V, ret1X, v_ld, v_ias, v_iad, v_fad, v_slsl, v_slarr, v_st, v_app, v_cpy, v_clr, v_len, v_look, v_mset, elsV, partV, newV, free, atV, atI, atL, toVal, cellsV, okV, VSt.put, VSt.kill, VSt.alloc, VSt.frz, VSt.adopt, noref, norefB, deadB, deadV, nos, nm, nmL, nmB, nmE, Pa.eqb, Bool.not_false, Bool.not_true, Bool.and_true, Bool.true_and, Bool.false_and, Bool.and_false, bin, intOps, intBin, cvt, un, goInt, bndsV, bndV, Option.map_some, Option.map_none, List.map_cons, List.map_nil, Int.toNat_natCast, Nat.mul_one, Nat.zero_add, beq_true, beq_false, beq_self_eq_true, List.length_map, List.length_cons, List.length_nil, List.length_append, fillV, pEvV, repsV, List.append_nil, List.nil_append, if_pos, if_neg, reduceIte, List.getElem?_map, List.getElem?_drop, Nat.add_zero, List.getElem?_eq_getElem, Go.IntWalk.i64_in, wrap_u64, tmod_pos, eq_self, true_and, and_true, and_self, List.all_cons, List.all_nil, nmL_vi, flV_len, flP_len, flV_nm, flV_ok, flV_pv, flP_map, drop_flP, drop_flV, putC_flV, eqV2, eqV3, bneT, bneF, decide_true, decide_false, frzL_vi, frzL_flV, nmE_ag, nmE_at, frzE_ag, frzE_at, ofAg_len, ofAt_len, atL_vi, nmL_map_p, frzL_map_p, okL_p, toPVs_p, repsZ, nmL_reps, putC_vi, get_flV0, get_flV1, Int.toNat_zero, Int.toNat_one, Int.reduceToNat, eqV_slice, eqV_ptr, eqV_func, nilS, nilP, nilF, nmL_append, okL_vi, toPVs_vi, toPVs, toPV, frzV, frzL, frzB, resVV, vi, vb, nilV, sl1, bl1, pi, foldV, max2, min2, max_eq, min_eq, Int.tdiv_eq_ediv_of_nonneg, Int.cast_ofNat_Int, Option.isSome_none, Option.isSome_some, Option.isNone_none, Option.isNone_some, and_false, false_and, sl2, sl1P, slP, min_cast, take_map_pi, map_pi, Nat.sub_zero, Nat.zero_mul, List.length_take, decide_eq_true, decide_eq_false, Bool.true_eq_false, Bool.false_eq_true, beqT, beqF, ibeq, ibne, List.take_zero, List.take_succ_cons, List.drop_zero, List.drop_succ_cons, List.drop_nil, List.take_nil, List.cons_append, Bool.not_true, Bool.not_false, runP, pur, lookB, okPl, okPl1, List.any_cons, List.any_nil, Nat.reduceBEq, Nat.reduceEqDiff, beq_self_eq_true, Bool.or_false, Bool.or_true, Bool.false_or, Bool.true_or, Bool.not_true, Bool.not_false, Bool.and_true, Bool.true_and, Nat.zero_add, Nat.reduceAdd, nos, Pa.eqb]); rfl))
  refine VPl.stop (by decide) ?_
  refine VO.callN (no_orc 73 (by decide)) k4 rfl rfl rfl rfl rfl rfl ?_
  (simp only [filtN, filtNB, mkB, PT.set, VSt.put, PT.filt, noref, norefB, nos, nm, nmL, nmB, nmL_vi, nmL_map_p, nmE_ag, flV_nm, List.nil_append, List.append_nil, Pa.eqb, cond_true, cond_false, Bool.and_true, Bool.not_false, Bool.not_true])
  refine VO.moreA ?_
  refine VO.call [] [(p5, bl1 c.ships)] (mkB [(p2, .cells [sl1 c.up, sl1 c.cost, sl1 c.ships]), (p4, .cells [.p (.at (.slice none 0 0)), .p (.at (.slice none 0 0)), .p (.at (.slice none 0 0))])] .lf) rfl rfl (no_orc 74 (by decide)) k5 trivial ?_ ?_ rfl rfl rfl rfl rfl rfl rfl ?_
  · simp [mkB, PT.set, PT.Le, VSt.kill, bl1]
  · simp [mkB, PT.set, PT.Le, VSt.kill, sl1]
  (simp only [filtN, filtNB, mkB, PT.set, VSt.put, PT.filt, noref, norefB, nos, nm, nmL, nmB, nmL_vi, nmL_map_p, nmE_ag, flV_nm, List.nil_append, List.append_nil, Pa.eqb, cond_true, cond_false, Bool.and_true, Bool.not_false, Bool.not_true])
  refine VO.endA ?_
  have hble : Nat.ble (0 + (c.ships.length - 1) * 1) ((c.ships.eraseIdx s ++ [0]).map pi).length = true := by rw [Nat.ble_eq]; simp; omega
  have htk : (((c.ships.eraseIdx s ++ [0]).map pi).drop 0).take ((c.ships.length - 1) * 1) = (c.ships.eraseIdx s).map pi := by
    rw [List.drop_zero, ← List.map_take, Nat.mul_one, ← hel, List.take_left']; rfl
  have hsl : sl1 (c.ships.eraseIdx s) = .p (.sl 1 (c.ships.length - 1) ((c.ships.eraseIdx s).map pi)) := by unfold sl1; rw [hel]
  rw [hsl]
  generalize c.ships.eraseIdx s ++ [0] = E0 at *
  refine VC.frzA p5 (hb := rfl) (hc := toPVs_vi E0) ?_
  simp only [VSt.frz, PT.map, frzL, frzV, frzB, Option.map_some, Option.map_none, PT.set, PT.filt, VSt.kill, Pa.eqb, cond_true, cond_false, Bool.and_true, Bool.and_false, Bool.false_and, Bool.true_and, hble, htk]
  (repeat (first | refine VC.seq ?_ | refine VC.block ?_ | refine VC.kill ?_ | refine VC.skip ?_ | refine VC.exit ?_ | refine VC.regA ?_ | refine VC.condT ?_ | refine VC.condF ?_))
  exact VC.ret (Fin.A rfl)
set_option maxHeartbeats 4000000 in
theorem RWithout_ok (c : Can) (h : okC c) (s : Nat) (hs : s < c.ships.length) : VCall cfg 47 [canV c, vi s] [] [] (canV (canW c s)) [] := by
  have h7 := h.s7
  have h10 := h.n10
  have hcl := h.cl
  have hel : (c.ships.eraseIdx s).length = c.ships.length - 1 := by rw [List.length_eraseIdx_of_lt hs]
  have hE : List.map vi (c.ships.take s) ++ List.map vi (c.ships.drop (s + 1)) = (c.ships.eraseIdx s).map vi := by
    rw [List.eraseIdx_eq_take_drop_succ, List.map_append]
  have hsl : sl1 (c.ships.eraseIdx s) = .p (.sl 1 (c.ships.length - 1) ((c.ships.eraseIdx s).map pi)) := by unfold sl1; rw [hel]
  have e1 : List.take (c.ships.length - (s + 1)) (c.ships.drop (s + 1)) = c.ships.drop (s + 1) := List.take_of_length_le (by simp)
  have hs1 : s + (c.ships.length - (s + 1)) = c.ships.length - 1 := by omega
  have ht : ((s : Int) + 1).toNat = s + 1 := by omega
  unfold canV canW
  rw [hsl]
  (refine VCall.mk (fn := a47) rfl rfl rfl ?_; simp only [a47, inV, mkB, nmsL, PT.set])
  (repeat (first | refine VC.seq ?_ | refine VC.block ?_ | refine VC.kill ?_ | refine VC.skip ?_ | refine VC.exit ?_ | refine VC.regA ?_ | refine VC.condT ?_ | refine VC.condF ?_))
  refine VC.planP [p2] rfl ?_
  (apply VPl.run; · ((simp (config := {decide := false, maxSteps := 1000000}) (disch := omega) only [vev_call, putC_c0, putC_n0, putC_cs, ble0, List.getElem?_cons_zero, List.getElem?_cons_succ, runU, isCall, wantV, vev, evV, ofVal, ofAtom, atomB, cond_true, cond_false, PT.get, PT.set, PT.filt, PT.map, Option.getD_some, Option.getD_none, ret1V, ret1X, v_ld, v_ias, v_iad, v_fad, v_slsl, v_slarr, v_st, v_app, v_cpy, v_clr, v_len, v_look, v_mset, elsV, partV, newV, free, atV, atI, atL, toVal, cellsV, okV, VSt.put, VSt.kill, VSt.alloc, VSt.frz, VSt.adopt, noref, norefB, deadB, deadV, nos, nm, nmL, nmB, nmE, Pa.eqb, Bool.not_false, Bool.not_true, Bool.and_true, Bool.true_and, Bool.false_and, Bool.and_false, bin, intOps, intBin, cvt, un, goInt, bndsV, bndV, Option.map_some, Option.map_none, List.map_cons, List.map_nil, Int.toNat_natCast, Nat.mul_one, Nat.zero_add, beq_true, beq_false, beq_self_eq_true, List.length_map, List.length_cons, List.length_nil, List.length_append, fillV, pEvV, repsV, List.append_nil, List.nil_append, if_pos, if_neg, reduceIte, List.getElem?_map, List.getElem?_drop, Nat.add_zero, List.getElem?_eq_getElem, Go.IntWalk.i64_in, wrap_u64, tmod_pos, eq_self, true_and, and_true, and_self, List.all_cons, List.all_nil, nmL_vi, flV_len, flP_len, flV_nm, flV_ok, flV_pv, flP_map, drop_flP, drop_flV, putC_flV, eqV2, eqV3, bneT, bneF, decide_true, decide_false, frzL_vi, frzL_flV, nmE_ag, nmE_at, frzE_ag, frzE_at, ofAg_len, ofAt_len, atL_vi, nmL_map_p, frzL_map_p, okL_p, toPVs_p, repsZ, nmL_reps, putC_vi, get_flV0, get_flV1, Int.toNat_zero, Int.toNat_one, Int.reduceToNat, eqV_slice, eqV_ptr, eqV_func, nilS, nilP, nilF, nmL_append, okL_vi, toPVs_vi, toPVs, toPV, frzV, frzL, frzB, resVV, vi, vb, nilV, sl1, bl1, pi, foldV, max2, min2, max_eq, min_eq, Int.tdiv_eq_ediv_of_nonneg, Int.cast_ofNat_Int, Option.isSome_none, Option.isSome_some, Option.isNone_none, Option.isNone_some, and_false, false_and, sl2, sl1P, slP, min_cast, take_map_pi, map_pi, Nat.sub_zero, Nat.zero_mul, List.length_take, decide_eq_true, decide_eq_false, Bool.true_eq_false, Bool.false_eq_true, beqT, beqF, ibeq, ibne, List.take_zero, List.take_succ_cons, List.drop_zero, List.drop_succ_cons, List.drop_nil, List.take_nil, List.cons_append, Bool.not_true, Bool.not_false, runP, pur, lookB, okPl, okPl1, List.any_cons, List.any_nil, Nat.reduceBEq, Nat.reduceEqDiff, beq_self_eq_true, Bool.or_false, Bool.or_true, Bool.false_or, Bool.true_or, Bool.not_true, Bool.not_false, Bool.and_true, Bool.true_and, Nat.zero_add, Nat.reduceAdd, nos, Pa.eqb]); rfl))
  apply VPl.act
  · (simp (config := {decide := false, maxSteps := 1000000}) (disch := omega) only [vev_call, putC_c0, putC_n0, putC_cs, ble0, List.getElem?_cons_zero, List.getElem?_cons_succ, runU, isCall, wantV, vev, evV, ofVal, ofAtom, atomB, cond_true, cond_false, PT.get, PT.set, PT.filt, PT.map, Option.getD_some, Option.getD_none, ret1V, ret1X, v_ld, v_ias, v_iad, v_fad, v_slsl, v_slarr, v_st, v_app, v_cpy, v_clr, v_len, v_look, v_mset, elsV, partV, newV, free, atV, atI, atL, toVal, cellsV, okV, VSt.put, VSt.kill, VSt.alloc, VSt.frz, VSt.adopt, noref, norefB, deadB, deadV, nos, nm, nmL, nmB, nmE, Pa.eqb, Bool.not_false, Bool.not_true, Bool.and_true, Bool.true_and, Bool.false_and, Bool.and_false, bin, intOps, intBin, cvt, un, goInt, bndsV, bndV, Option.map_some, Option.map_none, List.map_cons, List.map_nil, Int.toNat_natCast, Nat.mul_one, Nat.zero_add, beq_true, beq_false, beq_self_eq_true, List.length_map, List.length_cons, List.length_nil, List.length_append, fillV, pEvV, repsV, List.append_nil, List.nil_append, if_pos, if_neg, reduceIte, List.getElem?_map, List.getElem?_drop, Nat.add_zero, List.getElem?_eq_getElem, Go.IntWalk.i64_in, wrap_u64, tmod_pos, eq_self, true_and, and_true, and_self, List.all_cons, List.all_nil, nmL_vi, flV_len, flP_len, flV_nm, flV_ok, flV_pv, flP_map, drop_flP, drop_flV, putC_flV, eqV2, eqV3, bneT, bneF, decide_true, decide_false, frzL_vi, frzL_flV, nmE_ag, nmE_at, frzE_ag, frzE_at, ofAg_len, ofAt_len, atL_vi, nmL_map_p, frzL_map_p, okL_p, toPVs_p, repsZ, nmL_reps, putC_vi, get_flV0, get_flV1, Int.toNat_zero, Int.toNat_one, Int.reduceToNat, eqV_slice, eqV_ptr, eqV_func, nilS, nilP, nilF, nmL_append, okL_vi, toPVs_vi, toPVs, toPV, frzV, frzL, frzB, resVV, vi, vb, nilV, sl1, bl1, pi, foldV, max2, min2, max_eq, min_eq, Int.tdiv_eq_ediv_of_nonneg, Int.cast_ofNat_Int, Option.isSome_none, Option.isSome_some, Option.isNone_none, Option.isNone_some, and_false, false_and, sl2, sl1P, slP, min_cast, take_map_pi, map_pi, Nat.sub_zero, Nat.zero_mul, List.length_take, decide_eq_true, decide_eq_false, Bool.true_eq_false, Bool.false_eq_true, beqT, beqF, ibeq, ibne, List.take_zero, List.take_succ_cons, List.drop_zero, List.drop_succ_cons, List.drop_nil, List.take_nil, List.cons_append, Bool.not_true, Bool.not_false, remB, ← List.map_drop, ← List.map_take, List.length_drop, ht, e1, hE])
    rfl
  · rfl
  · rfl
  · rfl
  · rfl
  simp only [addB, PT.get, PT.set]
  (apply VPl.run; · ((simp (config := {decide := false, maxSteps := 1000000}) (disch := omega) only [vev_call, putC_c0, putC_n0, putC_cs, ble0, List.getElem?_cons_zero, List.getElem?_cons_succ, runU, isCall, wantV, vev, evV, ofVal, ofAtom, atomB, cond_true, cond_false, PT.get, PT.set, PT.filt, PT.map, Option.getD_some, Option.getD_none, ret1V, ret1X, v_ld, v_ias, v_iad, v_fad, v_slsl, v_slarr, v_st, v_app, v_cpy, v_clr, v_len, v_look, v_mset, elsV, partV, newV, free, atV, atI, atL, toVal, cellsV, okV, VSt.put, VSt.kill, VSt.alloc, VSt.frz, VSt.adopt, noref, norefB, deadB, deadV, nos, nm, nmL, nmB, nmE, Pa.eqb, Bool.not_false, Bool.not_true, Bool.and_true, Bool.true_and, Bool.false_and, Bool.and_false, bin, intOps, intBin, cvt, un, goInt, bndsV, bndV, Option.map_some, Option.map_none, List.map_cons, List.map_nil, Int.toNat_natCast, Nat.mul_one, Nat.zero_add, beq_true, beq_false, beq_self_eq_true, List.length_map, List.length_cons, List.length_nil, List.length_append, fillV, pEvV, repsV, List.append_nil, List.nil_append, if_pos, if_neg, reduceIte, List.getElem?_map, List.getElem?_drop, Nat.add_zero, List.getElem?_eq_getElem, Go.IntWalk.i64_in, wrap_u64, tmod_pos, eq_self, true_and, and_true, and_self, List.all_cons, List.all_nil, nmL_vi, flV_len, flP_len, flV_nm, flV_ok, flV_pv, flP_map, drop_flP, drop_flV, putC_flV, eqV2, eqV3, bneT, bneF, decide_true, decide_false, frzL_vi, frzL_flV, nmE_ag, nmE_at, frzE_ag, frzE_at, ofAg_len, ofAt_len, atL_vi, nmL_map_p, frzL_map_p, okL_p, toPVs_p, repsZ, nmL_reps, putC_vi, get_flV0, get_flV1, Int.toNat_zero, Int.toNat_one, Int.reduceToNat, eqV_slice, eqV_ptr, eqV_func, nilS, nilP, nilF, nmL_append, okL_vi, toPVs_vi, toPVs, toPV, frzV, frzL, frzB, resVV, vi, vb, nilV, sl1, bl1, pi, foldV, max2, min2, max_eq, min_eq, Int.tdiv_eq_ediv_of_nonneg, Int.cast_ofNat_Int, Option.isSome_none, Option.isSome_some, Option.isNone_none, Option.isNone_some, and_false, false_and, sl2, sl1P, slP, min_cast, take_map_pi, map_pi, Nat.sub_zero, Nat.zero_mul, List.length_take, decide_eq_true, decide_eq_false, Bool.true_eq_false, Bool.false_eq_true, beqT, beqF, ibeq, ibne, List.take_zero, List.take_succ_cons, List.drop_zero, List.drop_succ_cons, List.drop_nil, List.take_nil, List.cons_append, Bool.not_true, Bool.not_false, runP, pur, lookB, okPl, okPl1, List.any_cons, List.any_nil, Nat.reduceBEq, Nat.reduceEqDiff, beq_self_eq_true, Bool.or_false, Bool.or_true, Bool.false_or, Bool.true_or, Bool.not_true, Bool.not_false, Bool.and_true, Bool.true_and, Nat.zero_add, Nat.reduceAdd, nos, Pa.eqb]); rfl))
  refine VPl.stop (by decide) ?_
  refine VO.endA ?_
  (repeat (first | refine VC.seq ?_ | refine VC.block ?_ | refine VC.kill ?_ | refine VC.skip ?_ | refine VC.exit ?_ | refine VC.regA ?_ | refine VC.condT ?_ | refine VC.condF ?_))
  rw [hs1]
  exact VC.ret (Fin.frzA p11 (hb := rfl) (hc := toPVs_vi _) (Fin.A rfl))
end Go.Ab.Dues

namespace Go.Ab.Dues
open Go.Ab.V
set_option maxRecDepth 100000
set_option maxHeartbeats 16000000 in
theorem ends_law (c0 : Can) (x : Int) (h1 : c0.up.length ≤ 9223372036854775807) (h2 : c0.cost.length ≤ 9223372036854775807) (h3 : c0.ships.length ≤ 9223372036854775807) : VCall cfg 12 [canV c0, vi x] [] [] (vb true) [] := by
  have k1 := tame_ok c0 7 (by decide) h1 h2 h3
  have h := tame_okC c0 7 (by decide)
  generalize tameC c0 7 = c at *
  have h7 := h.s7
  have h10 := h.n10
  have hcl := h.cl
  have k2 := given_ok c (by omega) (by omega) (by omega)
  by_cases hm : c.ships.length = 0
  · unfold canV at *
    (refine VCall.mk (fn := a12) rfl rfl rfl ?_; simp only [a12, inV, mkB, nmsL, PT.set])
    (repeat (first | refine VC.seq ?_ | refine VC.block ?_ | refine VC.kill ?_ | refine VC.skip ?_ | refine VC.exit ?_ | refine VC.regA ?_ | refine VC.condT ?_ | refine VC.condF ?_))
    (refine VC.regCA ?_; refine VO.moreA ?_; refine VO.call0A (no_orc _ (by decide)) k1 ?_; refine VO.endA ?_; (repeat (first | refine VC.seq ?_ | refine VC.block ?_ | refine VC.kill ?_ | refine VC.skip ?_ | refine VC.exit ?_ | refine VC.regA ?_ | refine VC.condT ?_ | refine VC.condF ?_)))
    (refine VC.regCA ?_; refine VO.moreA ?_; refine VO.call0A (no_orc _ (by decide)) k2 ?_; refine VO.endA ?_; (repeat (first | refine VC.seq ?_ | refine VC.block ?_ | refine VC.kill ?_ | refine VC.skip ?_ | refine VC.exit ?_ | refine VC.regA ?_ | refine VC.condT ?_ | refine VC.condF ?_)))
    refine VC.regCA ?_
    refine VO.moreA ?_
    refine VO.knownA (.bool true) rfl ?_
    refine VO.endA ?_
    (repeat (first | refine VC.seq ?_ | refine VC.block ?_ | refine VC.kill ?_ | refine VC.skip ?_ | refine VC.exit ?_ | refine VC.regA ?_ | refine VC.condT ?_ | refine VC.condF ?_))
    exact VC.ret (Fin.A rfl)
  have hE := Int.emod_nonneg (x % 18446744073709551616) (show (c.ships.length : Int) ≠ 0 by omega)
  have hF := Int.emod_lt_of_pos (x % 18446744073709551616) (show 0 < (c.ships.length : Int) by omega)
  obtain ⟨s, hs⟩ := Int.eq_ofNat_of_zero_le hE
  have hs7 : s < c.ships.length := by omega
  have hmm : (c.ships.length : Int) % 18446744073709551616 = (c.ships.length : Int) := by omega
  have hp0 : 0 < 2 ^ c.ships.length := Nat.pow_pos (by decide)
  have hp7 : 2 ^ c.ships.length ≤ 128 := (show 2 ^ c.ships.length ≤ 2 ^ 7 from Nat.pow_le_pow_right (by decide) h7)
  have hsw : 2 ^ s < 2 ^ c.ships.length := Nat.pow_lt_pow_right (by decide) hs7
  have han := andN_le (2 ^ c.ships.length - 1) (2 ^ s)
  have k3 := Least_ok c h s hs7
  have k4 := Greatest_ok c h s hs7
  have k5 := Without_ok c h s hs7
  have k6 := RWithout_ok c h s hs7
  have kc1 := RCostOf_ok c h (2 ^ c.ships.length - 1) (by omega)
  have kc2 := RCostOf_ok c h (andN (2 ^ c.ships.length - 1) (2 ^ s)) (by omega)
  have kc3 := RCostOf_ok c h (2 ^ s) hsw
  have i1 := ints_ok c.up c.up (by omega)
  have i2 := ints_ok c.cost c.cost (by omega)
  have i3 := ints_ok (c.ships.eraseIdx s) (c.ships.eraseIdx s) (by have := List.length_eraseIdx_le c.ships s; omega)
  rw [decide_eq_true rfl] at i1 i2 i3
  have hb1 := costS_bd h (2 ^ c.ships.length - 1)
  have hb2 := costS_bd h (andN (2 ^ c.ships.length - 1) (2 ^ s))
  have hshm := shl_one (n := c.ships.length) (by omega)
  have hshs := shl_one (n := s) (by omega)
  have hws := wrapI (x := (s : Int)) (by omega) (by omega)
  have hshw := shl_w (q := c.ships.length) (by omega)
  have hsub : ((2 ^ c.ships.length : Nat) : Int) - 1 = ((2 ^ c.ships.length - 1 : Nat) : Int) := by omega
  have handn := andn_i64 (a := 2 ^ c.ships.length - 1) (b := 2 ^ s) (by omega) (by omega)
  generalize costS c (2 ^ c.ships.length - 1) = x1 at *
  generalize costS c (andN (2 ^ c.ships.length - 1) (2 ^ s)) = x2 at *
  generalize costS c (2 ^ s) = x3 at *
  generalize andN (2 ^ c.ships.length - 1) (2 ^ s) = d at *
  generalize 2 ^ c.ships.length - 1 = A at *
  generalize 2 ^ c.ships.length = W at *
  generalize 2 ^ s = w at *
  unfold canW at *
  unfold canV at *
  simp only at *
  generalize c.ships.eraseIdx s = E at *
  (refine VCall.mk (fn := a12) rfl rfl rfl ?_; simp only [a12, inV, mkB, nmsL, PT.set])
  (repeat (first | refine VC.seq ?_ | refine VC.block ?_ | refine VC.kill ?_ | refine VC.skip ?_ | refine VC.exit ?_ | refine VC.regA ?_ | refine VC.condT ?_ | refine VC.condF ?_))
  (refine VC.regCA ?_; refine VO.moreA ?_; refine VO.call0A (no_orc _ (by decide)) k1 ?_; refine VO.endA ?_; (repeat (first | refine VC.seq ?_ | refine VC.block ?_ | refine VC.kill ?_ | refine VC.skip ?_ | refine VC.exit ?_ | refine VC.regA ?_ | refine VC.condT ?_ | refine VC.condF ?_)))
  (refine VC.regCA ?_; refine VO.moreA ?_; refine VO.call0A (no_orc _ (by decide)) k2 ?_; refine VO.endA ?_; (repeat (first | refine VC.seq ?_ | refine VC.block ?_ | refine VC.kill ?_ | refine VC.skip ?_ | refine VC.exit ?_ | refine VC.regA ?_ | refine VC.condT ?_ | refine VC.condF ?_)))
  simp only [hmm, hs, hws, Int.toNat_natCast, hshw, hsub]
  (refine VC.regCA ?_; refine VO.moreA ?_; refine VO.call0A (no_orc _ (by decide)) k3 ?_; refine VO.endA ?_; (repeat (first | refine VC.seq ?_ | refine VC.block ?_ | refine VC.kill ?_ | refine VC.skip ?_ | refine VC.exit ?_ | refine VC.regA ?_ | refine VC.condT ?_ | refine VC.condF ?_)))
  (refine VC.regCA ?_; refine VO.moreA ?_; refine VO.call0A (no_orc _ (by decide)) k4 ?_; refine VO.endA ?_; (repeat (first | refine VC.seq ?_ | refine VC.block ?_ | refine VC.kill ?_ | refine VC.skip ?_ | refine VC.exit ?_ | refine VC.regA ?_ | refine VC.condT ?_ | refine VC.condF ?_)))
  (refine VC.regCA ?_; refine VO.moreA ?_; refine VO.call0A (no_orc _ (by decide)) k5 ?_; refine VO.endA ?_; (repeat (first | refine VC.seq ?_ | refine VC.block ?_ | refine VC.kill ?_ | refine VC.skip ?_ | refine VC.exit ?_ | refine VC.regA ?_ | refine VC.condT ?_ | refine VC.condF ?_)))
  (refine VC.regCA ?_; refine VO.moreA ?_; refine VO.call0A (no_orc _ (by decide)) k6 ?_; refine VO.endA ?_; (repeat (first | refine VC.seq ?_ | refine VC.block ?_ | refine VC.kill ?_ | refine VC.skip ?_ | refine VC.exit ?_ | refine VC.regA ?_ | refine VC.condT ?_ | refine VC.condF ?_)))
  refine VC.planP [p10, p5, p12] rfl ?_
  (apply VPl.run; · ((simp (config := {decide := false, maxSteps := 1000000}) (disch := omega) only [vev_call, putC_c0, putC_n0, putC_cs, ble0, List.getElem?_cons_zero, List.getElem?_cons_succ, runU, isCall, wantV, vev, evV, ofVal, ofAtom, atomB, cond_true, cond_false, PT.get, PT.set, PT.filt, PT.map, Option.getD_some, Option.getD_none, ret1V, ret1X, v_ld, v_ias, v_iad, v_fad, v_slsl, v_slarr, v_st, v_app, v_cpy, v_clr, v_len, v_look, v_mset, elsV, partV, newV, free, atV, atI, atL, toVal, cellsV, okV, VSt.put, VSt.kill, VSt.alloc, VSt.frz, VSt.adopt, noref, norefB, deadB, deadV, nos, nm, nmL, nmB, nmE, Pa.eqb, Bool.not_false, Bool.not_true, Bool.and_true, Bool.true_and, Bool.false_and, Bool.and_false, bin, intOps, intBin, cvt, un, goInt, bndsV, bndV, Option.map_some, Option.map_none, List.map_cons, List.map_nil, Int.toNat_natCast, Nat.mul_one, Nat.zero_add, beq_true, beq_false, beq_self_eq_true, List.length_map, List.length_cons, List.length_nil, List.length_append, fillV, pEvV, repsV, List.append_nil, List.nil_append, if_pos, if_neg, reduceIte, List.getElem?_map, List.getElem?_drop, Nat.add_zero, List.getElem?_eq_getElem, Go.IntWalk.i64_in, wrap_u64, tmod_pos, eq_self, true_and, and_true, and_self, List.all_cons, List.all_nil, nmL_vi, flV_len, flP_len, flV_nm, flV_ok, flV_pv, flP_map, drop_flP, drop_flV, putC_flV, eqV2, eqV3, bneT, bneF, decide_true, decide_false, frzL_vi, frzL_flV, nmE_ag, nmE_at, frzE_ag, frzE_at, ofAg_len, ofAt_len, atL_vi, nmL_map_p, frzL_map_p, okL_p, toPVs_p, repsZ, nmL_reps, putC_vi, get_flV0, get_flV1, Int.toNat_zero, Int.toNat_one, Int.reduceToNat, eqV_slice, eqV_ptr, eqV_func, nilS, nilP, nilF, nmL_append, okL_vi, toPVs_vi, toPVs, toPV, frzV, frzL, frzB, resVV, vi, vb, nilV, sl1, bl1, pi, foldV, max2, min2, max_eq, min_eq, Int.tdiv_eq_ediv_of_nonneg, Int.cast_ofNat_Int, Option.isSome_none, Option.isSome_some, Option.isNone_none, Option.isNone_some, and_false, false_and, sl2, sl1P, slP, min_cast, take_map_pi, map_pi, Nat.sub_zero, Nat.zero_mul, List.length_take, decide_eq_true, decide_eq_false, Bool.true_eq_false, Bool.false_eq_true, beqT, beqF, ibeq, ibne, List.take_zero, List.take_succ_cons, List.drop_zero, List.drop_succ_cons, List.drop_nil, List.take_nil, List.cons_append, Bool.not_true, Bool.not_false, runP, pur, lookB, okPl, okPl1, List.any_cons, List.any_nil, Nat.reduceBEq, Nat.reduceEqDiff, beq_self_eq_true, Bool.or_false, Bool.or_true, Bool.false_or, Bool.true_or, Bool.not_true, Bool.not_false, Bool.and_true, Bool.true_and, Nat.zero_add, Nat.reduceAdd, nos, Pa.eqb]); rfl))
  refine VPl.call (no_orc 30 (by decide)) kc1 rfl rfl rfl rfl ?_
  (apply VPl.run; · ((simp (config := {decide := false, maxSteps := 1000000}) (disch := omega) only [vev_call, putC_c0, putC_n0, putC_cs, ble0, List.getElem?_cons_zero, List.getElem?_cons_succ, runU, isCall, wantV, vev, evV, ofVal, ofAtom, atomB, cond_true, cond_false, PT.get, PT.set, PT.filt, PT.map, Option.getD_some, Option.getD_none, ret1V, ret1X, v_ld, v_ias, v_iad, v_fad, v_slsl, v_slarr, v_st, v_app, v_cpy, v_clr, v_len, v_look, v_mset, elsV, partV, newV, free, atV, atI, atL, toVal, cellsV, okV, VSt.put, VSt.kill, VSt.alloc, VSt.frz, VSt.adopt, noref, norefB, deadB, deadV, nos, nm, nmL, nmB, nmE, Pa.eqb, Bool.not_false, Bool.not_true, Bool.and_true, Bool.true_and, Bool.false_and, Bool.and_false, bin, intOps, intBin, cvt, un, goInt, bndsV, bndV, Option.map_some, Option.map_none, List.map_cons, List.map_nil, Int.toNat_natCast, Nat.mul_one, Nat.zero_add, beq_true, beq_false, beq_self_eq_true, List.length_map, List.length_cons, List.length_nil, List.length_append, fillV, pEvV, repsV, List.append_nil, List.nil_append, if_pos, if_neg, reduceIte, List.getElem?_map, List.getElem?_drop, Nat.add_zero, List.getElem?_eq_getElem, Go.IntWalk.i64_in, wrap_u64, tmod_pos, eq_self, true_and, and_true, and_self, List.all_cons, List.all_nil, nmL_vi, flV_len, flP_len, flV_nm, flV_ok, flV_pv, flP_map, drop_flP, drop_flV, putC_flV, eqV2, eqV3, bneT, bneF, decide_true, decide_false, frzL_vi, frzL_flV, nmE_ag, nmE_at, frzE_ag, frzE_at, ofAg_len, ofAt_len, atL_vi, nmL_map_p, frzL_map_p, okL_p, toPVs_p, repsZ, nmL_reps, putC_vi, get_flV0, get_flV1, Int.toNat_zero, Int.toNat_one, Int.reduceToNat, eqV_slice, eqV_ptr, eqV_func, nilS, nilP, nilF, nmL_append, okL_vi, toPVs_vi, toPVs, toPV, frzV, frzL, frzB, resVV, vi, vb, nilV, sl1, bl1, pi, foldV, max2, min2, max_eq, min_eq, Int.tdiv_eq_ediv_of_nonneg, Int.cast_ofNat_Int, Option.isSome_none, Option.isSome_some, Option.isNone_none, Option.isNone_some, and_false, false_and, sl2, sl1P, slP, min_cast, take_map_pi, map_pi, Nat.sub_zero, Nat.zero_mul, List.length_take, decide_eq_true, decide_eq_false, Bool.true_eq_false, Bool.false_eq_true, beqT, beqF, ibeq, ibne, List.take_zero, List.take_succ_cons, List.drop_zero, List.drop_succ_cons, List.drop_nil, List.take_nil, List.cons_append, Bool.not_true, Bool.not_false, runP, pur, lookB, okPl, okPl1, List.any_cons, List.any_nil, Nat.reduceBEq, Nat.reduceEqDiff, beq_self_eq_true, Bool.or_false, Bool.or_true, Bool.false_or, Bool.true_or, Bool.not_true, Bool.not_false, Bool.and_true, Bool.true_and, Nat.zero_add, Nat.reduceAdd, nos, Pa.eqb, hshs, handn]); rfl))
  refine VPl.call (no_orc 30 (by decide)) kc2 rfl rfl rfl rfl ?_
  (apply VPl.run; · ((simp (config := {decide := false, maxSteps := 1000000}) (disch := omega) only [vev_call, putC_c0, putC_n0, putC_cs, ble0, List.getElem?_cons_zero, List.getElem?_cons_succ, runU, isCall, wantV, vev, evV, ofVal, ofAtom, atomB, cond_true, cond_false, PT.get, PT.set, PT.filt, PT.map, Option.getD_some, Option.getD_none, ret1V, ret1X, v_ld, v_ias, v_iad, v_fad, v_slsl, v_slarr, v_st, v_app, v_cpy, v_clr, v_len, v_look, v_mset, elsV, partV, newV, free, atV, atI, atL, toVal, cellsV, okV, VSt.put, VSt.kill, VSt.alloc, VSt.frz, VSt.adopt, noref, norefB, deadB, deadV, nos, nm, nmL, nmB, nmE, Pa.eqb, Bool.not_false, Bool.not_true, Bool.and_true, Bool.true_and, Bool.false_and, Bool.and_false, bin, intOps, intBin, cvt, un, goInt, bndsV, bndV, Option.map_some, Option.map_none, List.map_cons, List.map_nil, Int.toNat_natCast, Nat.mul_one, Nat.zero_add, beq_true, beq_false, beq_self_eq_true, List.length_map, List.length_cons, List.length_nil, List.length_append, fillV, pEvV, repsV, List.append_nil, List.nil_append, if_pos, if_neg, reduceIte, List.getElem?_map, List.getElem?_drop, Nat.add_zero, List.getElem?_eq_getElem, Go.IntWalk.i64_in, wrap_u64, tmod_pos, eq_self, true_and, and_true, and_self, List.all_cons, List.all_nil, nmL_vi, flV_len, flP_len, flV_nm, flV_ok, flV_pv, flP_map, drop_flP, drop_flV, putC_flV, eqV2, eqV3, bneT, bneF, decide_true, decide_false, frzL_vi, frzL_flV, nmE_ag, nmE_at, frzE_ag, frzE_at, ofAg_len, ofAt_len, atL_vi, nmL_map_p, frzL_map_p, okL_p, toPVs_p, repsZ, nmL_reps, putC_vi, get_flV0, get_flV1, Int.toNat_zero, Int.toNat_one, Int.reduceToNat, eqV_slice, eqV_ptr, eqV_func, nilS, nilP, nilF, nmL_append, okL_vi, toPVs_vi, toPVs, toPV, frzV, frzL, frzB, resVV, vi, vb, nilV, sl1, bl1, pi, foldV, max2, min2, max_eq, min_eq, Int.tdiv_eq_ediv_of_nonneg, Int.cast_ofNat_Int, Option.isSome_none, Option.isSome_some, Option.isNone_none, Option.isNone_some, and_false, false_and, sl2, sl1P, slP, min_cast, take_map_pi, map_pi, Nat.sub_zero, Nat.zero_mul, List.length_take, decide_eq_true, decide_eq_false, Bool.true_eq_false, Bool.false_eq_true, beqT, beqF, ibeq, ibne, List.take_zero, List.take_succ_cons, List.drop_zero, List.drop_succ_cons, List.drop_nil, List.take_nil, List.cons_append, Bool.not_true, Bool.not_false, runP, pur, lookB, okPl, okPl1, List.any_cons, List.any_nil, Nat.reduceBEq, Nat.reduceEqDiff, beq_self_eq_true, Bool.or_false, Bool.or_true, Bool.false_or, Bool.true_or, Bool.not_true, Bool.not_false, Bool.and_true, Bool.true_and, Nat.zero_add, Nat.reduceAdd, nos, Pa.eqb, hshs, handn]); rfl))
  refine VPl.call (no_orc 30 (by decide)) kc3 rfl rfl rfl rfl ?_
  (apply VPl.run; · ((simp (config := {decide := false, maxSteps := 1000000}) (disch := omega) only [vev_call, putC_c0, putC_n0, putC_cs, ble0, List.getElem?_cons_zero, List.getElem?_cons_succ, runU, isCall, wantV, vev, evV, ofVal, ofAtom, atomB, cond_true, cond_false, PT.get, PT.set, PT.filt, PT.map, Option.getD_some, Option.getD_none, ret1V, ret1X, v_ld, v_ias, v_iad, v_fad, v_slsl, v_slarr, v_st, v_app, v_cpy, v_clr, v_len, v_look, v_mset, elsV, partV, newV, free, atV, atI, atL, toVal, cellsV, okV, VSt.put, VSt.kill, VSt.alloc, VSt.frz, VSt.adopt, noref, norefB, deadB, deadV, nos, nm, nmL, nmB, nmE, Pa.eqb, Bool.not_false, Bool.not_true, Bool.and_true, Bool.true_and, Bool.false_and, Bool.and_false, bin, intOps, intBin, cvt, un, goInt, bndsV, bndV, Option.map_some, Option.map_none, List.map_cons, List.map_nil, Int.toNat_natCast, Nat.mul_one, Nat.zero_add, beq_true, beq_false, beq_self_eq_true, List.length_map, List.length_cons, List.length_nil, List.length_append, fillV, pEvV, repsV, List.append_nil, List.nil_append, if_pos, if_neg, reduceIte, List.getElem?_map, List.getElem?_drop, Nat.add_zero, List.getElem?_eq_getElem, Go.IntWalk.i64_in, wrap_u64, tmod_pos, eq_self, true_and, and_true, and_self, List.all_cons, List.all_nil, nmL_vi, flV_len, flP_len, flV_nm, flV_ok, flV_pv, flP_map, drop_flP, drop_flV, putC_flV, eqV2, eqV3, bneT, bneF, decide_true, decide_false, frzL_vi, frzL_flV, nmE_ag, nmE_at, frzE_ag, frzE_at, ofAg_len, ofAt_len, atL_vi, nmL_map_p, frzL_map_p, okL_p, toPVs_p, repsZ, nmL_reps, putC_vi, get_flV0, get_flV1, Int.toNat_zero, Int.toNat_one, Int.reduceToNat, eqV_slice, eqV_ptr, eqV_func, nilS, nilP, nilF, nmL_append, okL_vi, toPVs_vi, toPVs, toPV, frzV, frzL, frzB, resVV, vi, vb, nilV, sl1, bl1, pi, foldV, max2, min2, max_eq, min_eq, Int.tdiv_eq_ediv_of_nonneg, Int.cast_ofNat_Int, Option.isSome_none, Option.isSome_some, Option.isNone_none, Option.isNone_some, and_false, false_and, sl2, sl1P, slP, min_cast, take_map_pi, map_pi, Nat.sub_zero, Nat.zero_mul, List.length_take, decide_eq_true, decide_eq_false, Bool.true_eq_false, Bool.false_eq_true, beqT, beqF, ibeq, ibne, List.take_zero, List.take_succ_cons, List.drop_zero, List.drop_succ_cons, List.drop_nil, List.take_nil, List.cons_append, Bool.not_true, Bool.not_false, runP, pur, lookB, okPl, okPl1, List.any_cons, List.any_nil, Nat.reduceBEq, Nat.reduceEqDiff, beq_self_eq_true, Bool.or_false, Bool.or_true, Bool.false_or, Bool.true_or, Bool.not_true, Bool.not_false, Bool.and_true, Bool.true_and, Nat.zero_add, Nat.reduceAdd, nos, Pa.eqb]); rfl))
  refine VPl.stop (by decide) ?_
  refine VO.call0A (no_orc 22 (by decide)) i1 ?_
  (refine VO.moreA ?_; refine VO.call0A (no_orc _ (by decide)) i2 ?_)
  (refine VO.moreA ?_; refine VO.call0A (no_orc _ (by decide)) i3 ?_)
  refine VO.moreA ?_
  refine VO.knownA (.bool true) rfl ?_
  refine VO.endA ?_
  (repeat (first | refine VC.seq ?_ | refine VC.block ?_ | refine VC.kill ?_ | refine VC.skip ?_ | refine VC.exit ?_ | refine VC.regA ?_ | refine VC.condT ?_ | refine VC.condF ?_))
  exact VC.ret (Fin.A rfl)
end Go.Ab.Dues

namespace Go.Proofs.YtdjpaifhmiocnaaDoor.duesEnds
open Go.ChangeShapes Go.WideShapes Go.ChangeAt Go.RowKit
open Go.ChangeMaps (open_string shut_string)
open Go.Ab Go.Ab.V Go.Ab.Dues
set_option linter.unusedVariables false
theorem own : ownKnob Tryd.prog.godebug = none := by kernel_rfl
theorem laidOut : laidOutB Tryd.prog = true := by kernel_rfl
theorem orc : OrcOK Tryd.prog cfg := orcOK mixed tab0 (fun h => by cases h) rfl awake_closed
theorem tab : TabOK Tryd.prog cfg := tab0
set_option maxRecDepth 100000 in
theorem lifted (os : Os) (started : os.Started) (H : Type) (enc : TypeId × Value → H) :
    ReturnsInHanded {} Tryd.checked os 12 .any (fun w args => (Rows.duesEndsSpec.pre enc Tryd.prog Tryd.f12 Rows.duesEndsRow.domain false w args ∧ laidMetH Tryd.prog Rows.duesEndsRow.laid w) ∧ sizedMet enc Tryd.prog Tryd.f12 (OpenSpec.ofChange Rows.duesEndsSpec) false w args) (Rows.duesEndsSpec.post enc Tryd.prog Tryd.f12 false true false false) := by
  refine returnsInHanded_of_change_and (C := Tryd.checked) (X := fun w _ => laidMetH Tryd.prog Rows.duesEndsRow.laid w) (fun _ _ _ hh h => h.of_heap hh) own started (by kernel_rfl) Tryd.func12
    (ChangeSpec.witness_at (enc := enc) (C := Tryd.checked) (os := os) (X := fun w _ => laidMetH Tryd.prog Rows.duesEndsRow.laid w) false (laidWorld os) #[.agg #[.slice none 0 0, .slice none 0 0, .slice none 0 0], .int .i64 0] 8 rfl (by kernel_rfl) (by kernel_rfl) (by kernel_rfl) (by kernel_rfl) (by kernel_rfl) (laidWorld_met os _)) ?_
  intro W base args ds gs before hval0 hW hcnd _ hL _
  have hval : ∀ (j : Nat) t v, Tryd.f12.params[j]? = some t → args[j]? = some v → Value.okWide Tryd.prog W .any base t v := hval0
  have hW' := hW
  obtain ⟨p, q, hA0, hV, rfl, hfz, hnd⟩ := hW
  have hA : DataW.TrodAll enc Tryd.prog W 0 (fun _ => true) true Tryd.f12.params.toList args.toList ds p := hA0
  rw [Tryd.params12] at hA hval
  obtain ⟨v0, vs0, d0, ds0, p0, q0, hargs, rfl, rfl, h0, r0⟩ := trodAll_cons hA
  obtain ⟨v1, vs1, d1, ds1, p1, q1, rfl, rfl, rfl, h1, r1⟩ := trodAll_cons r0
  obtain ⟨rfl, rfl, rfl⟩ := trodAll_nil r1
  obtain rfl : args = #[v0, v1] := by cases args; simp_all
  obtain ⟨rfl, rfl⟩ := trodVars_none hV
  obtain ⟨c0, rfl⟩ := V.okWide_st Tryd.underlying24 (hval 0 24 v0 rfl rfl)
  have k0 := h0
  have lt0 : ∀ x ∈ p0, x.block < W.heap.size := by obtain ⟨m, hm⟩ := k0; exact DataW.trod_lt m _ _ _ hm
  have lv0 : V.Leaves Tryd.prog 24 [.sl [.int .i64], .sl [.int .i64], .sl [.int .i64]] := (.st Tryd.underlying24 (.cons rfl (.sl Tryd.underlying22 (.int Tryd.underlying3) (by kernel_rfl) (by simp)) (by kernel_rfl) (.cons rfl (.sl Tryd.underlying22 (.int Tryd.underlying3) (by kernel_rfl) (by simp)) (by kernel_rfl) (.cons rfl (.sl Tryd.underlying22 (.int Tryd.underlying3) (by kernel_rfl) (by simp)) (by kernel_rfl) .nil))) (by kernel_rfl))
  obtain ⟨ds0_0, wt0_0, zr0, zv0⟩ := V.arg_agg (show V.OpenR W [.sl [.int .i64], .sl [.int .i64], .sl [.int .i64]] c0.toList from by obtain ⟨fuel, hf⟩ := h0; exact V.open_all lv0 hf)
  obtain ⟨z0_0, ds0_1, eq0_0, zl0_0, zb0_0, wt0_1⟩ := V.wt_sl1 wt0_0
  obtain ⟨z0_1, ds0_2, eq0_1, zl0_1, zb0_1, wt0_2⟩ := V.wt_sl1 wt0_1
  obtain ⟨z0_2, ds0_3, eq0_2, zl0_2, zb0_2, wt0_3⟩ := V.wt_sl1 wt0_2
  rw [eq0_0, eq0_1, eq0_2, V.wt_nil wt0_3] at zv0
  obtain ⟨a1, rfl, rfl, rfl, w1⟩ := open_int Tryd.underlying3 (hval 1 3 v1 rfl rfl) h1
  clear hA0 hval0
  refine (calls_true mixed tab orc (ends_law ⟨_, _, _⟩ _ zl0_0 zl0_1 zl0_2) (hgl := glob_of_laid hL) (All2.cons zv0 (All2.cons (.p (.at rfl)) .nil)) (LR.cons zr0 (LR.cons (.int _ _) (LR.nil _)))).mono fun e W' ⟨he, bel⟩ => ?_
  subst he
  exact ⟨_, rfl, _, _, _, [], _, [], hW', trodAll_mk1 (shut_bool Tryd.underlying4 _), (trodAll_cons_mk (Below.trod laidOut (by kernel_rfl) (of_decide_eq_true (by kernel_rfl)) k0 bel lt0) (trodAll_cons_mk (shut_int Tryd.underlying3 w1) trodAll_mk0)), rfl, bel.frame _, fun h => by cases h⟩
theorem over : Rows.duesEndsRow.holds Tryd.pinned (OpenSpec.ofChange Rows.duesEndsSpec) :=
  OpenClaim.holds_of_wide 12 Tryd.f12 rfl rfl rfl rfl rfl rfl rfl ⟨rfl, rfl, rfl, rfl, rfl⟩ rfl rfl rfl rfl rfl (by kernel_rfl) Tryd.func12 (by kernel_rfl)
    (of_decide_eq_true (by kernel_rfl)) (by unfold Func.isWrapper; first | (rw [if_pos (by decide +kernel)]; kernel_rfl) | (rw [if_neg (by decide +kernel)]; exact ⟨rfl, rfl⟩))
    (fun os started H enc _ => lifted os started H enc)
theorem card : Rows.DuesEndsCardSaid :=
  Claim7.holds_tied_plain_at .later [] Rows.duesEndsCard.laidKinds true Rows.duesEndsCard.stood.harness false
    over (fun _ h => by cases h) (by kernel_rfl) (fun _ h => by cases h) duesEnds_row_tie rfl ⟨rfl, rfl⟩ (by kernel_rfl) rfl
    (fun f fn hf hfn => by
      obtain rfl : f = 12 := Option.some.inj ((show Tryd.prog.funcNamed Rows.duesEndsRow.func = some 12 by kernel_rfl).symm.trans hf) |>.symm
      obtain rfl : fn = Tryd.f12 := (Option.some.inj (Tryd.func12.symm.trans hfn)).symm
      exact ⟨by kernel_rfl, fun j t ht => by
        rw [Tryd.params12] at ht
        have h3 : t = 24 ∨ t = 3 := by
          have hm : t ∈ [24, 3] := List.mem_of_getElem? (by simpa using ht)
          simpa using hm
        rcases h3 with rfl | rfl
        · exact (show Tryd.prog.wantsStandIn 24 = false by kernel_rfl)
        · exact (show Tryd.prog.wantsStandIn 3 = false by kernel_rfl)⟩)
    (by kernel_rfl)
theorem proved : Rows.DuesEndsCardSaid := card
end Go.Proofs.YtdjpaifhmiocnaaDoor.duesEnds
namespace Go.Proofs.YtdjpaifhmiocnaaDoor
/-- The row, under a short name, for the claim. -/
theorem duesEnds_holds : Rows.DuesEndsCardSaid := duesEnds.proved
end Go.Proofs.YtdjpaifhmiocnaaDoor
