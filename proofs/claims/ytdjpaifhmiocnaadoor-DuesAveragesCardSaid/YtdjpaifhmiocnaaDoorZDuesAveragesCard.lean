/- Proved: for every input the law DuesAverages returns true, and each argument reads afterwards as it read before. The card says it where the package variables that the law reads hold what their initialization left. -/
import Derived.Test.YtdjpaifhmiocnaaDoorRows
import Derived.WalkKit
import Derived.ProofKit
import Derived.OpenShut
import Derived.ShutString
import Derived.ChangeOld
import Derived.Below
import Derived.Carry
import Derived.Test.YtdjpaifhmiocnaaDoorCards
import Derived.Test.YtdjpaifhmiocnaaDoorTie
import Derived.SevenTiedAt
import Derived.Handed
import Derived.Test.YtdjpaifhmiocnaaDoorA04
set_option linter.unusedSimpArgs false
set_option linter.unusedVariables false
namespace Go.Ab.Dues
open Go.Ab.V
set_option maxRecDepth 100000
theorem fl_nm (c : Can) (nd : List Nat) (m : Pa) : nmL (flC c nd m) = [m] := by
  unfold flC
  simp only [nmL, nmL_append, nmL_nat, nm, sl1, List.nil_append, List.append_nil]
theorem es_nm : ∀ M : List (Nat × Int), nmE (esM M) = []
  | [] => rfl
  | q :: M => by show nm (vi q.2) ++ nmE (esM M) = []; rw [es_nm M]; rfl
theorem fl_frz (c : Can) (nd : List Nat) (m a : Pa) (cs : List PV) : frzL a cs (flC c nd m) = flC c nd m := by
  rw [frzL_eq]
  simp [flC, frzV, sl1, vi]
theorem es_frz (a : Pa) (cs : List PV) (M : List (Nat × Int)) : ((esM M).map fun e => (e.1, frzV a cs e.2)) = esM M := by
  unfold esM; rw [List.map_map]
  exact List.map_congr_left fun e _ => rfl
set_option maxHeartbeats 8000000 in
theorem cost_ok (c : Can) (h : okC c) (M : List (Nat × Int)) (hM : okM c M) (S : Nat) (hS : S < 2 ^ c.ships.length) :
    VCall cfg 68 [.op 0 p16 0, vi S] [(p16, .cells (flC c (needK c c.ships.length) p14)), (p14, .map (esM M))] [] (vi (costS c S)) [(p16, .cells (flC c (needK c c.ships.length) p14)), (p14, .map (esM (memo c M S)))] := by
  have h7 := h.s7
  have hS7 : S < 1024 := Nat.lt_of_lt_of_le hS (show 2 ^ c.ships.length ≤ 2 ^ 10 from Nat.pow_le_pow_right (by decide) (by omega))
  have hnl := needK_len c c.ships.length
  have hPl := pieces_lt h c.ships.length S
  have hmap := fl_map c (needK c c.ships.length) p14 hnl
  have hfind := find_esM c M S hM
  have hkey := keyI S S
  rw [decide_eq_true rfl] at hkey
  have hcs : costS c S = costP c.cost (pieces (needK c c.ships.length) S) := rfl
  have hfl1 : ∀ nd m, (flC c nd m)[1]? = some (sl1 c.cost) := fun _ _ => rfl
  have hndlt := needK_lt h c.ships.length
  have hpb : ∀ p ∈ bitsN (pieces (needK c c.ships.length) S), p < c.cost.length := fun p hp => by
    obtain ⟨s, _, hs⟩ := pieces_bit.1 (bitsN_mem.1 hp).2
    have := needK_bit h hs
    rw [h.cl]; exact this
  generalize hND : needK c c.ships.length = nd at *
  have hP := members_ok (pieces nd S) hPl
  (refine VCall.mk (fn := a68) rfl rfl rfl ?_; simp only [a68, inV, mkB, nmsL, PT.set])
  cases hany : M.any (fun q => decide (q.1 = S)) with
  | true =>
    rw [hany] at hfind
    simp only [if_true] at hfind
    have hmm : memo c M S = M := by unfold memo; rw [if_pos hany]
    rw [hmm]
    (repeat (first | refine VC.seq ?_ | refine VC.block ?_ | refine VC.kill ?_ | refine VC.skip ?_ | refine VC.exit ?_ | refine VC.regA ?_ | refine VC.condT ?_ | refine VC.condF ?_))
    ((try (apply VC.regU; · ((simp (config := {decide := false, maxSteps := 1000000}) (disch := omega) only [vev_call, putC_c0, putC_n0, putC_cs, ble0, List.getElem?_cons_zero, List.getElem?_cons_succ, runU, isCall, wantV, vev, evV, ofVal, ofAtom, atomB, cond_true, cond_false, PT.get, PT.set, PT.filt, PT.map, Option.getD_some, Option.getD_none, ret1V, ret1X, v_ld, v_ias, v_iad, v_fad, v_slsl, v_slarr, v_st, v_app, v_cpy, v_clr, v_len, v_look, v_mset, elsV, partV, newV, free, atV, atI, atL, toVal, cellsV, okV, VSt.put, VSt.kill, VSt.alloc, VSt.frz, VSt.adopt, noref, norefB, deadB, deadV, nos, nm, nmL, nmB, nmE, Pa.eqb, Bool.not_false, Bool.not_true, Bool.and_true, Bool.true_and, Bool.false_and, Bool.and_false, bin, intOps, intBin, cvt, un, goInt, bndsV, bndV, Option.map_some, Option.map_none, List.map_cons, List.map_nil, Int.toNat_natCast, Nat.mul_one, Nat.zero_add, beq_true, beq_false, beq_self_eq_true, List.length_map, List.length_cons, List.length_nil, List.length_append, fillV, pEvV, repsV, List.append_nil, List.nil_append, if_pos, if_neg, reduceIte, List.getElem?_map, List.getElem?_drop, Nat.add_zero, List.getElem?_eq_getElem, Go.IntWalk.i64_in, wrap_u64, tmod_pos, eq_self, true_and, and_true, and_self, List.all_cons, List.all_nil, nmL_vi, flV_len, flP_len, flV_nm, flV_ok, flV_pv, flP_map, drop_flP, drop_flV, putC_flV, eqV2, eqV3, bneT, bneF, decide_true, decide_false, frzL_vi, frzL_flV, nmE_ag, nmE_at, frzE_ag, frzE_at, ofAg_len, ofAt_len, atL_vi, nmL_map_p, frzL_map_p, okL_p, toPVs_p, repsZ, nmL_reps, putC_vi, get_flV0, get_flV1, Int.toNat_zero, Int.toNat_one, Int.reduceToNat, eqV_slice, eqV_ptr, eqV_func, nilS, nilP, nilF, nmL_append, okL_vi, toPVs_vi, toPVs, toPV, frzV, frzL, frzB, resVV, vi, vb, nilV, sl1, bl1, pi, foldV, max2, min2, max_eq, min_eq, Int.tdiv_eq_ediv_of_nonneg, Int.cast_ofNat_Int, Option.isSome_none, Option.isSome_some, Option.isNone_none, Option.isNone_some, and_false, false_and, sl2, sl1P, slP, min_cast, take_map_pi, map_pi, Nat.sub_zero, Nat.zero_mul, List.length_take, decide_eq_true, decide_eq_false, Bool.true_eq_false, Bool.false_eq_true, beqT, beqF, ibeq, ibne, List.take_zero, List.take_succ_cons, List.drop_zero, List.drop_succ_cons, List.drop_nil, List.take_nil, List.cons_append, Bool.not_true, Bool.not_false, hmap, hfind, hkey]); rfl))); (repeat (first | refine VC.seq ?_ | refine VC.block ?_ | refine VC.kill ?_ | refine VC.skip ?_ | refine VC.exit ?_ | refine VC.regA ?_ | refine VC.condT ?_ | refine VC.condF ?_)))
    refine VC.ret (Fin.of rfl rfl ?_ rfl rfl ?_)
    · simp [mkB, PT.set, PT.Le, VSt.kill]
    · simp [subs, nm, nmL, nmsB, nmB, es_nm, fl_nm, nos, Pa.eqb, vi, sl1]
  | false =>
    rw [hany] at hfind
    simp only [Bool.false_eq_true, if_false] at hfind
    have hk := members_ok S hS7
    (repeat (first | refine VC.seq ?_ | refine VC.block ?_ | refine VC.kill ?_ | refine VC.skip ?_ | refine VC.exit ?_ | refine VC.regA ?_ | refine VC.condT ?_ | refine VC.condF ?_))
    ((try (apply VC.regU; · ((simp (config := {decide := false, maxSteps := 1000000}) (disch := omega) only [vev_call, putC_c0, putC_n0, putC_cs, ble0, List.getElem?_cons_zero, List.getElem?_cons_succ, runU, isCall, wantV, vev, evV, ofVal, ofAtom, atomB, cond_true, cond_false, PT.get, PT.set, PT.filt, PT.map, Option.getD_some, Option.getD_none, ret1V, ret1X, v_ld, v_ias, v_iad, v_fad, v_slsl, v_slarr, v_st, v_app, v_cpy, v_clr, v_len, v_look, v_mset, elsV, partV, newV, free, atV, atI, atL, toVal, cellsV, okV, VSt.put, VSt.kill, VSt.alloc, VSt.frz, VSt.adopt, noref, norefB, deadB, deadV, nos, nm, nmL, nmB, nmE, Pa.eqb, Bool.not_false, Bool.not_true, Bool.and_true, Bool.true_and, Bool.false_and, Bool.and_false, bin, intOps, intBin, cvt, un, goInt, bndsV, bndV, Option.map_some, Option.map_none, List.map_cons, List.map_nil, Int.toNat_natCast, Nat.mul_one, Nat.zero_add, beq_true, beq_false, beq_self_eq_true, List.length_map, List.length_cons, List.length_nil, List.length_append, fillV, pEvV, repsV, List.append_nil, List.nil_append, if_pos, if_neg, reduceIte, List.getElem?_map, List.getElem?_drop, Nat.add_zero, List.getElem?_eq_getElem, Go.IntWalk.i64_in, wrap_u64, tmod_pos, eq_self, true_and, and_true, and_self, List.all_cons, List.all_nil, nmL_vi, flV_len, flP_len, flV_nm, flV_ok, flV_pv, flP_map, drop_flP, drop_flV, putC_flV, eqV2, eqV3, bneT, bneF, decide_true, decide_false, frzL_vi, frzL_flV, nmE_ag, nmE_at, frzE_ag, frzE_at, ofAg_len, ofAt_len, atL_vi, nmL_map_p, frzL_map_p, okL_p, toPVs_p, repsZ, nmL_reps, putC_vi, get_flV0, get_flV1, Int.toNat_zero, Int.toNat_one, Int.reduceToNat, eqV_slice, eqV_ptr, eqV_func, nilS, nilP, nilF, nmL_append, okL_vi, toPVs_vi, toPVs, toPV, frzV, frzL, frzB, resVV, vi, vb, nilV, sl1, bl1, pi, foldV, max2, min2, max_eq, min_eq, Int.tdiv_eq_ediv_of_nonneg, Int.cast_ofNat_Int, Option.isSome_none, Option.isSome_some, Option.isNone_none, Option.isNone_some, and_false, false_and, sl2, sl1P, slP, min_cast, take_map_pi, map_pi, Nat.sub_zero, Nat.zero_mul, List.length_take, decide_eq_true, decide_eq_false, Bool.true_eq_false, Bool.false_eq_true, beqT, beqF, ibeq, ibne, List.take_zero, List.take_succ_cons, List.drop_zero, List.drop_succ_cons, List.drop_nil, List.take_nil, List.cons_append, Bool.not_true, Bool.not_false, hmap, hfind, hkey]); rfl))); (repeat (first | refine VC.seq ?_ | refine VC.block ?_ | refine VC.kill ?_ | refine VC.skip ?_ | refine VC.exit ?_ | refine VC.regA ?_ | refine VC.condT ?_ | refine VC.condF ?_)))
    (refine VC.regCA ?_; refine VO.moreA ?_; refine VO.call0A (no_orc _ (by decide)) hk ?_; refine VO.endA ?_; (repeat (first | refine VC.seq ?_ | refine VC.block ?_ | refine VC.kill ?_ | refine VC.skip ?_ | refine VC.exit ?_ | refine VC.regA ?_ | refine VC.condT ?_ | refine VC.condF ?_)))
    have hbl : (bitsL S).length = (bitsN S).length := by simp [bitsL]
    have hacc : ∀ i, ((bitsN S).take i).foldl (fun a s => a ||| nd.getD s 0) 0 < 1024 := fun i => fold_or_lt nd hndlt _ 0 (by decide)
    have hb10 := bitsN_len S
    refine VC.loopG (fun (i : Nat) => ⟨inV [p0, p1, p7, p25, p26, p27] [.op 0 p16 0, vi S, vi (((bitsN S).take i).foldl (fun a s => a ||| nd.getD s 0) 0 : Nat), sl1 (bitsL S), vi (bitsL S).length, vi i] .lf, mkB [(p16, .cells (flC c nd p14)), (p14, .map (esM M))] .lf, [p16, p14], none⟩) (fun n i => n = (bitsN S).length - i ∧ i ≤ (bitsN S).length) (x := 0) ?_ ⟨rfl, Nat.zero_le _⟩ ?_
    · (apply Go.Ab.V.G.weak; constructor <;> simp (config := {decide := true}) only [PT.Le, inV, mkB, PT.set, VSt.kill, VSt.adopt, VSt.alloc, PT.filt, PT.map, List.map_cons, List.map_nil, noref, norefB, deadB, deadV, nos, nm, nmL, nmB, nmE, Pa.eqb, cond_true, cond_false, Bool.not_true, Bool.not_false, Bool.and_true, Bool.true_and, nmL_vi, flV_len, flP_len, flV_nm, flV_ok, flV_pv, flP_map, drop_flP, drop_flV, putC_flV, eqV2, eqV3, bneT, bneF, decide_true, decide_false, frzL_vi, frzL_flV, nmE_ag, nmE_at, frzE_ag, frzE_at, ofAg_len, ofAt_len, atL_vi, nmL_map_p, frzL_map_p, okL_p, toPVs_p, repsZ, nmL_reps, putC_vi, get_flV0, get_flV1, Int.toNat_zero, Int.toNat_one, Int.reduceToNat, eqV_slice, eqV_ptr, eqV_func, nilS, nilP, nilF, nmL_append, true_or, or_true, and_self, true_and, and_true, Option.some.injEq, reduceCtorEq, false_or, or_false, VV.p.injEq, PV.at.injEq, Value.int.injEq, sl1, vi, bl1, vb, nilV, sl1])
      (all_goals first | rfl | omega | exact ⟨rfl, by omega⟩)
    · rintro n i ⟨hn, hi⟩
      simp only [inV, PT.set, mkB]
      have ha := hacc i
      have hft : ∀ h : i < (bitsN S).length, ((bitsN S).take (i + 1)).foldl (fun a s => a ||| nd.getD s 0) 0 = ((bitsN S).take i).foldl (fun a s => a ||| nd.getD s 0) 0 ||| nd.getD (bitsN S)[i] 0 := fun h => fold_take _ _ _ _ h
      have hend : i = (bitsN S).length → ((bitsN S).take i).foldl (fun a s => a ||| nd.getD s 0) 0 = pieces nd S := fun e => by rw [e, List.take_length]; rfl
      generalize hA : ((bitsN S).take i).foldl (fun a s => a ||| nd.getD s 0) 0 = acc at *
      (repeat (first | refine VC.seq ?_ | refine VC.block ?_ | refine VC.kill ?_ | refine VC.skip ?_ | refine VC.exit ?_ | refine VC.regA ?_ | refine VC.condT ?_ | refine VC.condF ?_))
      refine VC.condA ?_ ?_ <;> intro h' <;> (simp only [decide_eq_true_eq, decide_eq_false_iff_not, bne_iff_ne, ne_eq, bne_eq_false_iff_eq, beq_iff_eq, beq_eq_false_iff_ne, Bool.not_eq_true', Bool.not_eq_false', Bool.and_eq_true, Bool.or_eq_true, Int.natCast_inj] at h')
      · have h' : i < (bitsN S).length := by omega
        have h'' : i < (bitsL S).length := by omega
        have hft := hft h'
        have hg := bitsL_get S i h''
        have hmem := bitsN_mem.1 (List.getElem_mem h')
        have hs7 := bit_lt hS hmem.2
        generalize hs : (bitsN S)[i] = s at *
        have hs' : s < nd.length := by omega
        have hgs := fl_get c nd p14 s hs'
        have hgd : nd.getD s 0 = nd[s] := by rw [List.getD_eq_getElem?_getD, List.getElem?_eq_getElem hs']; rfl
        have hlt := hndlt s
        rw [hgd] at hft hlt
        have hor1 := or_i64 (a := acc) (b := nd[s]) (by omega) (by omega)
        (repeat (first | refine VC.seq ?_ | refine VC.block ?_ | refine VC.kill ?_ | refine VC.skip ?_ | refine VC.exit ?_ | refine VC.regA ?_ | refine VC.condT ?_ | refine VC.condF ?_))
        simp only [hg]
        ((try (apply VC.regU; · ((simp (config := {decide := false, maxSteps := 1000000}) (disch := omega) only [vev_call, putC_c0, putC_n0, putC_cs, ble0, List.getElem?_cons_zero, List.getElem?_cons_succ, runU, isCall, wantV, vev, evV, ofVal, ofAtom, atomB, cond_true, cond_false, PT.get, PT.set, PT.filt, PT.map, Option.getD_some, Option.getD_none, ret1V, ret1X, v_ld, v_ias, v_iad, v_fad, v_slsl, v_slarr, v_st, v_app, v_cpy, v_clr, v_len, v_look, v_mset, elsV, partV, newV, free, atV, atI, atL, toVal, cellsV, okV, VSt.put, VSt.kill, VSt.alloc, VSt.frz, VSt.adopt, noref, norefB, deadB, deadV, nos, nm, nmL, nmB, nmE, Pa.eqb, Bool.not_false, Bool.not_true, Bool.and_true, Bool.true_and, Bool.false_and, Bool.and_false, bin, intOps, intBin, cvt, un, goInt, bndsV, bndV, Option.map_some, Option.map_none, List.map_cons, List.map_nil, Int.toNat_natCast, Nat.mul_one, Nat.zero_add, beq_true, beq_false, beq_self_eq_true, List.length_map, List.length_cons, List.length_nil, List.length_append, fillV, pEvV, repsV, List.append_nil, List.nil_append, if_pos, if_neg, reduceIte, List.getElem?_map, List.getElem?_drop, Nat.add_zero, List.getElem?_eq_getElem, Go.IntWalk.i64_in, wrap_u64, tmod_pos, eq_self, true_and, and_true, and_self, List.all_cons, List.all_nil, nmL_vi, flV_len, flP_len, flV_nm, flV_ok, flV_pv, flP_map, drop_flP, drop_flV, putC_flV, eqV2, eqV3, bneT, bneF, decide_true, decide_false, frzL_vi, frzL_flV, nmE_ag, nmE_at, frzE_ag, frzE_at, ofAg_len, ofAt_len, atL_vi, nmL_map_p, frzL_map_p, okL_p, toPVs_p, repsZ, nmL_reps, putC_vi, get_flV0, get_flV1, Int.toNat_zero, Int.toNat_one, Int.reduceToNat, eqV_slice, eqV_ptr, eqV_func, nilS, nilP, nilF, nmL_append, okL_vi, toPVs_vi, toPVs, toPV, frzV, frzL, frzB, resVV, vi, vb, nilV, sl1, bl1, pi, foldV, max2, min2, max_eq, min_eq, Int.tdiv_eq_ediv_of_nonneg, Int.cast_ofNat_Int, Option.isSome_none, Option.isSome_some, Option.isNone_none, Option.isNone_some, and_false, false_and, sl2, sl1P, slP, min_cast, take_map_pi, map_pi, Nat.sub_zero, Nat.zero_mul, List.length_take, decide_eq_true, decide_eq_false, Bool.true_eq_false, Bool.false_eq_true, beqT, beqF, ibeq, ibne, List.take_zero, List.take_succ_cons, List.drop_zero, List.drop_succ_cons, List.drop_nil, List.take_nil, List.cons_append, Bool.not_true, Bool.not_false, hgs, hor1]); rfl))); (repeat (first | refine VC.seq ?_ | refine VC.block ?_ | refine VC.kill ?_ | refine VC.skip ?_ | refine VC.exit ?_ | refine VC.regA ?_ | refine VC.condT ?_ | refine VC.condF ?_)))
        refine ⟨_, i + 1, ?_, ⟨rfl, by omega⟩, ?_⟩
        · omega
        · (apply Go.Ab.V.G.weak; constructor <;> simp (config := {decide := true}) only [PT.Le, inV, mkB, PT.set, VSt.kill, VSt.adopt, VSt.alloc, PT.filt, PT.map, List.map_cons, List.map_nil, noref, norefB, deadB, deadV, nos, nm, nmL, nmB, nmE, Pa.eqb, cond_true, cond_false, Bool.not_true, Bool.not_false, Bool.and_true, Bool.true_and, nmL_vi, flV_len, flP_len, flV_nm, flV_ok, flV_pv, flP_map, drop_flP, drop_flV, putC_flV, eqV2, eqV3, bneT, bneF, decide_true, decide_false, frzL_vi, frzL_flV, nmE_ag, nmE_at, frzE_ag, frzE_at, ofAg_len, ofAt_len, atL_vi, nmL_map_p, frzL_map_p, okL_p, toPVs_p, repsZ, nmL_reps, putC_vi, get_flV0, get_flV1, Int.toNat_zero, Int.toNat_one, Int.reduceToNat, eqV_slice, eqV_ptr, eqV_func, nilS, nilP, nilF, nmL_append, true_or, or_true, and_self, true_and, and_true, Option.some.injEq, reduceCtorEq, false_or, or_false, VV.p.injEq, PV.at.injEq, Value.int.injEq, sl1, vi, bl1, vb, nilV, sl1, hft])
          (all_goals first | rfl | omega | exact ⟨rfl, by omega⟩)
      · have h' : i = (bitsN S).length := by omega
        have hend := hend h'
        subst hend
        clear hft hacc ha hA
        have hpl : (bitsL (pieces nd S)).length = (bitsN (pieces nd S)).length := by simp [bitsL]
        have hb10 := bitsN_len (pieces nd S)
        have hPg : ∀ (k : Nat) (h : k < (bitsN (pieces nd S)).length), (bitsN (pieces nd S))[k] < c.cost.length := fun k h => hpb _ (List.getElem_mem h)
        have hPi : ∀ (k : Nat) (h : k < (bitsL (pieces nd S)).length) (h2 : k < (bitsN (pieces nd S)).length), (bitsL (pieces nd S))[k] = (((bitsN (pieces nd S))[k] : Nat) : Int) := fun k h _ => bitsL_get _ k h
        (repeat (first | refine VC.seq ?_ | refine VC.block ?_ | refine VC.kill ?_ | refine VC.skip ?_ | refine VC.exit ?_ | refine VC.regA ?_ | refine VC.condT ?_ | refine VC.condF ?_))
        (refine VC.regCA ?_; refine VO.moreA ?_; refine VO.call0A (no_orc _ (by decide)) hP ?_; refine VO.endA ?_; (repeat (first | refine VC.seq ?_ | refine VC.block ?_ | refine VC.kill ?_ | refine VC.skip ?_ | refine VC.exit ?_ | refine VC.regA ?_ | refine VC.condT ?_ | refine VC.condF ?_)))
        clear hk hP hend hpb
        generalize hB : bitsN (pieces nd S) = B at *
        generalize hX : bitsL (pieces nd S) = X at *
        have htk : ∀ (k : Nat) (h : k < B.length), (B.take (k + 1)).map (fun p => c.cost.getD p 0) = (B.take k).map (fun p => c.cost.getD p 0) ++ [c.cost.getD B[k] 0] := fun k h => by rw [List.take_add_one, List.getElem?_eq_getElem h, List.map_append]; rfl
        have hll : ∀ k, k ≤ B.length → ((B.take k).map (fun p => c.cost.getD p 0)).length = k := fun k hk => by rw [List.length_map, List.length_take]; omega
        refine VC.loopG (fun (k : Nat) => ⟨inV [p0, p1, p10, p41, p42, p43] [.op 0 p16 0, vi S, .os 1 p57 k, sl1 X, vi X.length, vi k] .lf, mkB [(p16, .cells (flC c nd p14)), (p14, .map (esM M)), (p57, .cells (((B.take k).map (fun p => c.cost.getD p 0)).map vi))] .lf, [p16, p14], none⟩) (fun n k => n = B.length - k ∧ k ≤ B.length) (x := 0) ?_ ⟨rfl, Nat.zero_le _⟩ ?_
        · refine G.adoptA (p := p10) 1 p57 ?_
          (apply Go.Ab.V.G.weak; constructor <;> simp (config := {decide := true}) only [PT.Le, inV, mkB, PT.set, VSt.kill, VSt.adopt, VSt.alloc, PT.filt, PT.map, List.map_cons, List.map_nil, noref, norefB, deadB, deadV, nos, nm, nmL, nmB, nmE, Pa.eqb, cond_true, cond_false, Bool.not_true, Bool.not_false, Bool.and_true, Bool.true_and, nmL_vi, flV_len, flP_len, flV_nm, flV_ok, flV_pv, flP_map, drop_flP, drop_flV, putC_flV, eqV2, eqV3, bneT, bneF, decide_true, decide_false, frzL_vi, frzL_flV, nmE_ag, nmE_at, frzE_ag, frzE_at, ofAg_len, ofAt_len, atL_vi, nmL_map_p, frzL_map_p, okL_p, toPVs_p, repsZ, nmL_reps, putC_vi, get_flV0, get_flV1, Int.toNat_zero, Int.toNat_one, Int.reduceToNat, eqV_slice, eqV_ptr, eqV_func, nilS, nilP, nilF, nmL_append, true_or, or_true, and_self, true_and, and_true, Option.some.injEq, reduceCtorEq, false_or, or_false, VV.p.injEq, PV.at.injEq, Value.int.injEq, sl1, vi, bl1, vb, nilV, sl1, fl_nm, es_nm])
          (all_goals first | rfl | omega | exact ⟨rfl, by omega⟩)
        rintro n k ⟨hn, hk⟩
        simp only [inV, PT.set, mkB]
        have hlk := hll k hk
        have htk := htk k
        generalize hLL : (B.take k).map (fun p => c.cost.getD p 0) = LL at *
        (repeat (first | refine VC.seq ?_ | refine VC.block ?_ | refine VC.kill ?_ | refine VC.skip ?_ | refine VC.exit ?_ | refine VC.regA ?_ | refine VC.condT ?_ | refine VC.condF ?_))
        refine VC.condA ?_ ?_ <;> intro h2 <;> (simp only [decide_eq_true_eq, decide_eq_false_iff_not, bne_iff_ne, ne_eq, bne_eq_false_iff_eq, beq_iff_eq, beq_eq_false_iff_ne, Bool.not_eq_true', Bool.not_eq_false', Bool.and_eq_true, Bool.or_eq_true, Int.natCast_inj] at h2)
        · have h2 : k < B.length := by omega
          have h3 : k < X.length := by omega
          have hpi := hPi k h3 h2
          have hpg := hPg k h2
          have htk := htk h2
          generalize hp : B[k] = p at *
          have hcd : c.cost.getD p 0 = c.cost[p] := by rw [List.getD_eq_getElem?_getD, List.getElem?_eq_getElem hpg]; rfl
          rw [hcd] at htk
          have hf1 := hfl1 nd p14
          simp only [sl1] at hf1
          (repeat (first | refine VC.seq ?_ | refine VC.block ?_ | refine VC.kill ?_ | refine VC.skip ?_ | refine VC.exit ?_ | refine VC.regA ?_ | refine VC.condT ?_ | refine VC.condF ?_))
          simp only [hpi]
          ((try (apply VC.regU; · ((simp (config := {decide := false, maxSteps := 1000000}) (disch := omega) only [vev_call, putC_c0, putC_n0, putC_cs, ble0, List.getElem?_cons_zero, List.getElem?_cons_succ, runU, isCall, wantV, vev, evV, ofVal, ofAtom, atomB, cond_true, cond_false, PT.get, PT.set, PT.filt, PT.map, Option.getD_some, Option.getD_none, ret1V, ret1X, v_ld, v_ias, v_iad, v_fad, v_slsl, v_slarr, v_st, v_app, v_cpy, v_clr, v_len, v_look, v_mset, elsV, partV, newV, free, atV, atI, atL, toVal, cellsV, okV, VSt.put, VSt.kill, VSt.alloc, VSt.frz, VSt.adopt, noref, norefB, deadB, deadV, nos, nm, nmL, nmB, nmE, Pa.eqb, Bool.not_false, Bool.not_true, Bool.and_true, Bool.true_and, Bool.false_and, Bool.and_false, bin, intOps, intBin, cvt, un, goInt, bndsV, bndV, Option.map_some, Option.map_none, List.map_cons, List.map_nil, Int.toNat_natCast, Nat.mul_one, Nat.zero_add, beq_true, beq_false, beq_self_eq_true, List.length_map, List.length_cons, List.length_nil, List.length_append, fillV, pEvV, repsV, List.append_nil, List.nil_append, if_pos, if_neg, reduceIte, List.getElem?_map, List.getElem?_drop, Nat.add_zero, List.getElem?_eq_getElem, Go.IntWalk.i64_in, wrap_u64, tmod_pos, eq_self, true_and, and_true, and_self, List.all_cons, List.all_nil, nmL_vi, flV_len, flP_len, flV_nm, flV_ok, flV_pv, flP_map, drop_flP, drop_flV, putC_flV, eqV2, eqV3, bneT, bneF, decide_true, decide_false, frzL_vi, frzL_flV, nmE_ag, nmE_at, frzE_ag, frzE_at, ofAg_len, ofAt_len, atL_vi, nmL_map_p, frzL_map_p, okL_p, toPVs_p, repsZ, nmL_reps, putC_vi, get_flV0, get_flV1, Int.toNat_zero, Int.toNat_one, Int.reduceToNat, eqV_slice, eqV_ptr, eqV_func, nilS, nilP, nilF, nmL_append, okL_vi, toPVs_vi, toPVs, toPV, frzV, frzL, frzB, resVV, vi, vb, nilV, sl1, bl1, pi, foldV, max2, min2, max_eq, min_eq, Int.tdiv_eq_ediv_of_nonneg, Int.cast_ofNat_Int, Option.isSome_none, Option.isSome_some, Option.isNone_none, Option.isNone_some, and_false, false_and, sl2, sl1P, slP, min_cast, take_map_pi, map_pi, Nat.sub_zero, Nat.zero_mul, List.length_take, decide_eq_true, decide_eq_false, Bool.true_eq_false, Bool.false_eq_true, beqT, beqF, ibeq, ibne, List.take_zero, List.take_succ_cons, List.drop_zero, List.drop_succ_cons, List.drop_nil, List.take_nil, List.cons_append, Bool.not_true, Bool.not_false, hf1]); rfl))); (repeat (first | refine VC.seq ?_ | refine VC.block ?_ | refine VC.kill ?_ | refine VC.skip ?_ | refine VC.exit ?_ | refine VC.regA ?_ | refine VC.condT ?_ | refine VC.condF ?_)))
          refine ⟨_, k + 1, ?_, ⟨rfl, by omega⟩, ?_⟩
          · omega
          · (apply Go.Ab.V.G.weak; constructor <;> simp (config := {decide := true}) only [PT.Le, inV, mkB, PT.set, VSt.kill, VSt.adopt, VSt.alloc, PT.filt, PT.map, List.map_cons, List.map_nil, noref, norefB, deadB, deadV, nos, nm, nmL, nmB, nmE, Pa.eqb, cond_true, cond_false, Bool.not_true, Bool.not_false, Bool.and_true, Bool.true_and, nmL_vi, flV_len, flP_len, flV_nm, flV_ok, flV_pv, flP_map, drop_flP, drop_flV, putC_flV, eqV2, eqV3, bneT, bneF, decide_true, decide_false, frzL_vi, frzL_flV, nmE_ag, nmE_at, frzE_ag, frzE_at, ofAg_len, ofAt_len, atL_vi, nmL_map_p, frzL_map_p, okL_p, toPVs_p, repsZ, nmL_reps, putC_vi, get_flV0, get_flV1, Int.toNat_zero, Int.toNat_one, Int.reduceToNat, eqV_slice, eqV_ptr, eqV_func, nilS, nilP, nilF, nmL_append, true_or, or_true, and_self, true_and, and_true, Option.some.injEq, reduceCtorEq, false_or, or_false, VV.p.injEq, PV.at.injEq, Value.int.injEq, sl1, vi, bl1, vb, nilV, sl1, htk, List.map_append, fl_nm, es_nm])
            (all_goals first | rfl | omega | exact ⟨rfl, by omega⟩)
        · have h2 : k = B.length := by omega
          subst h2
          rw [List.take_length] at hLL
          have hsum := sum_ok LL (by omega) (fun x hx => by
            rw [← hLL] at hx
            obtain ⟨p, _, rfl⟩ := List.mem_map.1 hx
            have := cost_getD h p
            omega)
          have hcost : sumL LL = costS c S := by rw [hcs, ← hLL, ← hB]; rfl
          rw [hcost] at hsum
          have hnb : M.any (fun q => decide (q.1 = S)) = false := hany
          have hset := set_esM M S (vi (costS c S)) hnb
          have hmm : memo c M S = M ++ [(S, costS c S)] := by unfold memo; rw [if_neg (by rw [hany]; simp)]
          have hfind2 := find_esM c (memo c M S) S (okM_memo hM S)
          have hany2 : (memo c M S).any (fun q => decide (q.1 = S)) = true := by rw [hmm, List.any_append]; simp
          rw [hany2] at hfind2
          simp only [if_true] at hfind2
          rw [hmm, esM_snoc] at hfind2
          rw [hmm, esM_snoc]
          (repeat (first | refine VC.seq ?_ | refine VC.block ?_ | refine VC.kill ?_ | refine VC.skip ?_ | refine VC.exit ?_ | refine VC.regA ?_ | refine VC.condT ?_ | refine VC.condF ?_))
          refine VC.frzA p57 (hb := rfl) (hc := toPVs_vi LL) ?_
          simp only [VSt.frz, PT.map, frzL, frzV, frzB, Option.map_some, Option.map_none, fl_frz, es_frz, PT.set, PT.filt, VSt.kill, Pa.eqb, cond_true, cond_false, Bool.and_true, Bool.and_false, Bool.false_and, Bool.true_and]
          refine VC.planP [p16] rfl ?_
          (apply VPl.run; · ((simp (config := {decide := false, maxSteps := 1000000}) (disch := omega) only [vev_call, putC_c0, putC_n0, putC_cs, ble0, List.getElem?_cons_zero, List.getElem?_cons_succ, runU, isCall, wantV, vev, evV, ofVal, ofAtom, atomB, cond_true, cond_false, PT.get, PT.set, PT.filt, PT.map, Option.getD_some, Option.getD_none, ret1V, ret1X, v_ld, v_ias, v_iad, v_fad, v_slsl, v_slarr, v_st, v_app, v_cpy, v_clr, v_len, v_look, v_mset, elsV, partV, newV, free, atV, atI, atL, toVal, cellsV, okV, VSt.put, VSt.kill, VSt.alloc, VSt.frz, VSt.adopt, noref, norefB, deadB, deadV, nos, nm, nmL, nmB, nmE, Pa.eqb, Bool.not_false, Bool.not_true, Bool.and_true, Bool.true_and, Bool.false_and, Bool.and_false, bin, intOps, intBin, cvt, un, goInt, bndsV, bndV, Option.map_some, Option.map_none, List.map_cons, List.map_nil, Int.toNat_natCast, Nat.mul_one, Nat.zero_add, beq_true, beq_false, beq_self_eq_true, List.length_map, List.length_cons, List.length_nil, List.length_append, fillV, pEvV, repsV, List.append_nil, List.nil_append, if_pos, if_neg, reduceIte, List.getElem?_map, List.getElem?_drop, Nat.add_zero, List.getElem?_eq_getElem, Go.IntWalk.i64_in, wrap_u64, tmod_pos, eq_self, true_and, and_true, and_self, List.all_cons, List.all_nil, nmL_vi, flV_len, flP_len, flV_nm, flV_ok, flV_pv, flP_map, drop_flP, drop_flV, putC_flV, eqV2, eqV3, bneT, bneF, decide_true, decide_false, frzL_vi, frzL_flV, nmE_ag, nmE_at, frzE_ag, frzE_at, ofAg_len, ofAt_len, atL_vi, nmL_map_p, frzL_map_p, okL_p, toPVs_p, repsZ, nmL_reps, putC_vi, get_flV0, get_flV1, Int.toNat_zero, Int.toNat_one, Int.reduceToNat, eqV_slice, eqV_ptr, eqV_func, nilS, nilP, nilF, nmL_append, okL_vi, toPVs_vi, toPVs, toPV, frzV, frzL, frzB, resVV, vi, vb, nilV, sl1, bl1, pi, foldV, max2, min2, max_eq, min_eq, Int.tdiv_eq_ediv_of_nonneg, Int.cast_ofNat_Int, Option.isSome_none, Option.isSome_some, Option.isNone_none, Option.isNone_some, and_false, false_and, sl2, sl1P, slP, min_cast, take_map_pi, map_pi, Nat.sub_zero, Nat.zero_mul, List.length_take, decide_eq_true, decide_eq_false, Bool.true_eq_false, Bool.false_eq_true, beqT, beqF, ibeq, ibne, List.take_zero, List.take_succ_cons, List.drop_zero, List.drop_succ_cons, List.drop_nil, List.take_nil, List.cons_append, Bool.not_true, Bool.not_false, runP, pur, lookB, okPl, okPl1, List.any_cons, List.any_nil, Nat.reduceBEq, Nat.reduceEqDiff, beq_self_eq_true, Bool.or_false, Bool.or_true, Bool.false_or, Bool.true_or, Bool.not_true, Bool.not_false, Bool.and_true, Bool.true_and, Nat.zero_add, Nat.reduceAdd, nos, Pa.eqb, hmap]); rfl))
          refine VPl.call (no_orc 71 (by decide)) hsum ?_ rfl rfl rfl ?_
          · (simp (config := {decide := false, maxSteps := 1000000}) (disch := omega) only [vev_call, putC_c0, putC_n0, putC_cs, ble0, List.getElem?_cons_zero, List.getElem?_cons_succ, runU, isCall, wantV, vev, evV, ofVal, ofAtom, atomB, cond_true, cond_false, PT.get, PT.set, PT.filt, PT.map, Option.getD_some, Option.getD_none, ret1V, ret1X, v_ld, v_ias, v_iad, v_fad, v_slsl, v_slarr, v_st, v_app, v_cpy, v_clr, v_len, v_look, v_mset, elsV, partV, newV, free, atV, atI, atL, toVal, cellsV, okV, VSt.put, VSt.kill, VSt.alloc, VSt.frz, VSt.adopt, noref, norefB, deadB, deadV, nos, nm, nmL, nmB, nmE, Pa.eqb, Bool.not_false, Bool.not_true, Bool.and_true, Bool.true_and, Bool.false_and, Bool.and_false, bin, intOps, intBin, cvt, un, goInt, bndsV, bndV, Option.map_some, Option.map_none, List.map_cons, List.map_nil, Int.toNat_natCast, Nat.mul_one, Nat.zero_add, beq_true, beq_false, beq_self_eq_true, List.length_map, List.length_cons, List.length_nil, List.length_append, fillV, pEvV, repsV, List.append_nil, List.nil_append, if_pos, if_neg, reduceIte, List.getElem?_map, List.getElem?_drop, Nat.add_zero, List.getElem?_eq_getElem, Go.IntWalk.i64_in, wrap_u64, tmod_pos, eq_self, true_and, and_true, and_self, List.all_cons, List.all_nil, nmL_vi, flV_len, flP_len, flV_nm, flV_ok, flV_pv, flP_map, drop_flP, drop_flV, putC_flV, eqV2, eqV3, bneT, bneF, decide_true, decide_false, frzL_vi, frzL_flV, nmE_ag, nmE_at, frzE_ag, frzE_at, ofAg_len, ofAt_len, atL_vi, nmL_map_p, frzL_map_p, okL_p, toPVs_p, repsZ, nmL_reps, putC_vi, get_flV0, get_flV1, Int.toNat_zero, Int.toNat_one, Int.reduceToNat, eqV_slice, eqV_ptr, eqV_func, nilS, nilP, nilF, nmL_append, okL_vi, toPVs_vi, toPVs, toPV, frzV, frzL, frzB, resVV, vi, vb, nilV, sl1, bl1, pi, foldV, max2, min2, max_eq, min_eq, Int.tdiv_eq_ediv_of_nonneg, Int.cast_ofNat_Int, Option.isSome_none, Option.isSome_some, Option.isNone_none, Option.isNone_some, and_false, false_and, sl2, sl1P, slP, min_cast, take_map_pi, map_pi, Nat.sub_zero, Nat.zero_mul, List.length_take, decide_eq_true, decide_eq_false, Bool.true_eq_false, Bool.false_eq_true, beqT, beqF, ibeq, ibne, List.take_zero, List.take_succ_cons, List.drop_zero, List.drop_succ_cons, List.drop_nil, List.take_nil, List.cons_append, Bool.not_true, Bool.not_false, hlk, sl1])
          (apply VPl.run; · ((simp (config := {decide := false, maxSteps := 1000000}) (disch := omega) only [vev_call, putC_c0, putC_n0, putC_cs, ble0, List.getElem?_cons_zero, List.getElem?_cons_succ, runU, isCall, wantV, vev, evV, ofVal, ofAtom, atomB, cond_true, cond_false, PT.get, PT.set, PT.filt, PT.map, Option.getD_some, Option.getD_none, ret1V, ret1X, v_ld, v_ias, v_iad, v_fad, v_slsl, v_slarr, v_st, v_app, v_cpy, v_clr, v_len, v_look, v_mset, elsV, partV, newV, free, atV, atI, atL, toVal, cellsV, okV, VSt.put, VSt.kill, VSt.alloc, VSt.frz, VSt.adopt, noref, norefB, deadB, deadV, nos, nm, nmL, nmB, nmE, Pa.eqb, Bool.not_false, Bool.not_true, Bool.and_true, Bool.true_and, Bool.false_and, Bool.and_false, bin, intOps, intBin, cvt, un, goInt, bndsV, bndV, Option.map_some, Option.map_none, List.map_cons, List.map_nil, Int.toNat_natCast, Nat.mul_one, Nat.zero_add, beq_true, beq_false, beq_self_eq_true, List.length_map, List.length_cons, List.length_nil, List.length_append, fillV, pEvV, repsV, List.append_nil, List.nil_append, if_pos, if_neg, reduceIte, List.getElem?_map, List.getElem?_drop, Nat.add_zero, List.getElem?_eq_getElem, Go.IntWalk.i64_in, wrap_u64, tmod_pos, eq_self, true_and, and_true, and_self, List.all_cons, List.all_nil, nmL_vi, flV_len, flP_len, flV_nm, flV_ok, flV_pv, flP_map, drop_flP, drop_flV, putC_flV, eqV2, eqV3, bneT, bneF, decide_true, decide_false, frzL_vi, frzL_flV, nmE_ag, nmE_at, frzE_ag, frzE_at, ofAg_len, ofAt_len, atL_vi, nmL_map_p, frzL_map_p, okL_p, toPVs_p, repsZ, nmL_reps, putC_vi, get_flV0, get_flV1, Int.toNat_zero, Int.toNat_one, Int.reduceToNat, eqV_slice, eqV_ptr, eqV_func, nilS, nilP, nilF, nmL_append, okL_vi, toPVs_vi, toPVs, toPV, frzV, frzL, frzB, resVV, vi, vb, nilV, sl1, bl1, pi, foldV, max2, min2, max_eq, min_eq, Int.tdiv_eq_ediv_of_nonneg, Int.cast_ofNat_Int, Option.isSome_none, Option.isSome_some, Option.isNone_none, Option.isNone_some, and_false, false_and, sl2, sl1P, slP, min_cast, take_map_pi, map_pi, Nat.sub_zero, Nat.zero_mul, List.length_take, decide_eq_true, decide_eq_false, Bool.true_eq_false, Bool.false_eq_true, beqT, beqF, ibeq, ibne, List.take_zero, List.take_succ_cons, List.drop_zero, List.drop_succ_cons, List.drop_nil, List.take_nil, List.cons_append, Bool.not_true, Bool.not_false, runP, pur, lookB, okPl, okPl1, List.any_cons, List.any_nil, Nat.reduceBEq, Nat.reduceEqDiff, beq_self_eq_true, Bool.or_false, Bool.or_true, Bool.false_or, Bool.true_or, Bool.not_true, Bool.not_false, Bool.and_true, Bool.true_and, Nat.zero_add, Nat.reduceAdd, nos, Pa.eqb]); rfl))
          refine VPl.stop (by decide) ?_
          apply VO.uptoE
          · simp only [vi] at hset
            (simp (config := {decide := false, maxSteps := 1000000}) (disch := omega) only [vev_call, putC_c0, putC_n0, putC_cs, ble0, List.getElem?_cons_zero, List.getElem?_cons_succ, runU, isCall, wantV, vev, evV, ofVal, ofAtom, atomB, cond_true, cond_false, PT.get, PT.set, PT.filt, PT.map, Option.getD_some, Option.getD_none, ret1V, ret1X, v_ld, v_ias, v_iad, v_fad, v_slsl, v_slarr, v_st, v_app, v_cpy, v_clr, v_len, v_look, v_mset, elsV, partV, newV, free, atV, atI, atL, toVal, cellsV, okV, VSt.put, VSt.kill, VSt.alloc, VSt.frz, VSt.adopt, noref, norefB, deadB, deadV, nos, nm, nmL, nmB, nmE, Pa.eqb, Bool.not_false, Bool.not_true, Bool.and_true, Bool.true_and, Bool.false_and, Bool.and_false, bin, intOps, intBin, cvt, un, goInt, bndsV, bndV, Option.map_some, Option.map_none, List.map_cons, List.map_nil, Int.toNat_natCast, Nat.mul_one, Nat.zero_add, beq_true, beq_false, beq_self_eq_true, List.length_map, List.length_cons, List.length_nil, List.length_append, fillV, pEvV, repsV, List.append_nil, List.nil_append, if_pos, if_neg, reduceIte, List.getElem?_map, List.getElem?_drop, Nat.add_zero, List.getElem?_eq_getElem, Go.IntWalk.i64_in, wrap_u64, tmod_pos, eq_self, true_and, and_true, and_self, List.all_cons, List.all_nil, nmL_vi, flV_len, flP_len, flV_nm, flV_ok, flV_pv, flP_map, drop_flP, drop_flV, putC_flV, eqV2, eqV3, bneT, bneF, decide_true, decide_false, frzL_vi, frzL_flV, nmE_ag, nmE_at, frzE_ag, frzE_at, ofAg_len, ofAt_len, atL_vi, nmL_map_p, frzL_map_p, okL_p, toPVs_p, repsZ, nmL_reps, putC_vi, get_flV0, get_flV1, Int.toNat_zero, Int.toNat_one, Int.reduceToNat, eqV_slice, eqV_ptr, eqV_func, nilS, nilP, nilF, nmL_append, okL_vi, toPVs_vi, toPVs, toPV, frzV, frzL, frzB, resVV, vi, vb, nilV, sl1, bl1, pi, foldV, max2, min2, max_eq, min_eq, Int.tdiv_eq_ediv_of_nonneg, Int.cast_ofNat_Int, Option.isSome_none, Option.isSome_some, Option.isNone_none, Option.isNone_some, and_false, false_and, sl2, sl1P, slP, min_cast, take_map_pi, map_pi, Nat.sub_zero, Nat.zero_mul, List.length_take, decide_eq_true, decide_eq_false, Bool.true_eq_false, Bool.false_eq_true, beqT, beqF, ibeq, ibne, List.take_zero, List.take_succ_cons, List.drop_zero, List.drop_succ_cons, List.drop_nil, List.take_nil, List.cons_append, Bool.not_true, Bool.not_false, hkey, hfind, hset, Option.isSome_none, Option.isSome_some])
            rfl
          (repeat (first | refine VC.seq ?_ | refine VC.block ?_ | refine VC.kill ?_ | refine VC.skip ?_ | refine VC.exit ?_ | refine VC.regA ?_ | refine VC.condT ?_ | refine VC.condF ?_))
          simp only [vi] at hfind2
          ((try (apply VC.regU; · ((simp (config := {decide := false, maxSteps := 1000000}) (disch := omega) only [vev_call, putC_c0, putC_n0, putC_cs, ble0, List.getElem?_cons_zero, List.getElem?_cons_succ, runU, isCall, wantV, vev, evV, ofVal, ofAtom, atomB, cond_true, cond_false, PT.get, PT.set, PT.filt, PT.map, Option.getD_some, Option.getD_none, ret1V, ret1X, v_ld, v_ias, v_iad, v_fad, v_slsl, v_slarr, v_st, v_app, v_cpy, v_clr, v_len, v_look, v_mset, elsV, partV, newV, free, atV, atI, atL, toVal, cellsV, okV, VSt.put, VSt.kill, VSt.alloc, VSt.frz, VSt.adopt, noref, norefB, deadB, deadV, nos, nm, nmL, nmB, nmE, Pa.eqb, Bool.not_false, Bool.not_true, Bool.and_true, Bool.true_and, Bool.false_and, Bool.and_false, bin, intOps, intBin, cvt, un, goInt, bndsV, bndV, Option.map_some, Option.map_none, List.map_cons, List.map_nil, Int.toNat_natCast, Nat.mul_one, Nat.zero_add, beq_true, beq_false, beq_self_eq_true, List.length_map, List.length_cons, List.length_nil, List.length_append, fillV, pEvV, repsV, List.append_nil, List.nil_append, if_pos, if_neg, reduceIte, List.getElem?_map, List.getElem?_drop, Nat.add_zero, List.getElem?_eq_getElem, Go.IntWalk.i64_in, wrap_u64, tmod_pos, eq_self, true_and, and_true, and_self, List.all_cons, List.all_nil, nmL_vi, flV_len, flP_len, flV_nm, flV_ok, flV_pv, flP_map, drop_flP, drop_flV, putC_flV, eqV2, eqV3, bneT, bneF, decide_true, decide_false, frzL_vi, frzL_flV, nmE_ag, nmE_at, frzE_ag, frzE_at, ofAg_len, ofAt_len, atL_vi, nmL_map_p, frzL_map_p, okL_p, toPVs_p, repsZ, nmL_reps, putC_vi, get_flV0, get_flV1, Int.toNat_zero, Int.toNat_one, Int.reduceToNat, eqV_slice, eqV_ptr, eqV_func, nilS, nilP, nilF, nmL_append, okL_vi, toPVs_vi, toPVs, toPV, frzV, frzL, frzB, resVV, vi, vb, nilV, sl1, bl1, pi, foldV, max2, min2, max_eq, min_eq, Int.tdiv_eq_ediv_of_nonneg, Int.cast_ofNat_Int, Option.isSome_none, Option.isSome_some, Option.isNone_none, Option.isNone_some, and_false, false_and, sl2, sl1P, slP, min_cast, take_map_pi, map_pi, Nat.sub_zero, Nat.zero_mul, List.length_take, decide_eq_true, decide_eq_false, Bool.true_eq_false, Bool.false_eq_true, beqT, beqF, ibeq, ibne, List.take_zero, List.take_succ_cons, List.drop_zero, List.drop_succ_cons, List.drop_nil, List.take_nil, List.cons_append, Bool.not_true, Bool.not_false, hmap, hfind2, hkey]); rfl))); (repeat (first | refine VC.seq ?_ | refine VC.block ?_ | refine VC.kill ?_ | refine VC.skip ?_ | refine VC.exit ?_ | refine VC.regA ?_ | refine VC.condT ?_ | refine VC.condF ?_)))
          refine VC.ret (Fin.of rfl rfl ?_ rfl rfl ?_)
          · simp [mkB, PT.set, PT.Le, VSt.kill, vi]
          · have hnn : nmE (esM M ++ [(Value.int .i64 S, vi (costS c S))]) = [] := by rw [← esM_snoc]; exact es_nm _
            simp only [vi] at hnn
            simp [subs, nm, nmL, nmsB, nmB, hnn, fl_nm, nos, Pa.eqb, vi, sl1]
end Go.Ab.Dues

namespace Go.Ab.Dues
open Go.Ab.V
set_option maxRecDepth 100000
end Go.Ab.Dues

namespace Go.Ab.Dues
open Go.Ab.V
set_option maxRecDepth 100000
theorem bit_and (a p : Nat) : (a >>> p) &&& 1 = if a.testBit p = true then 1 else 0 := by
  rw [Nat.and_one_is_mod]
  have : a.testBit p = decide ((a >>> p) % 2 = 1) := by
    rw [Nat.testBit_eq_decide_div_mod_eq, Nat.shiftRight_eq_div_pow]
  rw [this]
  by_cases h : a >>> p % 2 = 1
  · rw [decide_eq_true h, if_pos rfl, h]
  · rw [decide_eq_false h, if_neg (by simp)]; omega
end Go.Ab.Dues

namespace Go.Ab.Dues
open Go.Ab.V
set_option maxRecDepth 100000
def ownC (c : Can) (l : List Nat) : List Int := l.map fun s => costS c (2 ^ s)
def gainS (c : Can) (S : Nat) : Int := sumL (ownC c (bitsN S)) - costS c S
theorem sumL_pos : ∀ (l : List Int) (m : Nat), (∀ x ∈ l, 0 ≤ x ∧ x ≤ m) → 0 ≤ sumL l ∧ sumL l ≤ ((l.length * m : Nat) : Int) := fun l m h => by
  have key : ∀ i, i ≤ l.length → 0 ≤ sumL (l.take i) ∧ sumL (l.take i) ≤ ((i * m : Nat) : Int) := by
    intro i
    induction i with
    | zero => intro _; simp [sumL]
    | succ i ih =>
      intro hi
      have := ih (by omega)
      have hx := h _ (List.getElem_mem (show i < l.length by omega))
      rw [sumL_take (show i < l.length by omega), Nat.succ_mul]
      omega
  have := key l.length (Nat.le_refl _)
  rw [List.take_length] at this; exact this
theorem costS_bd {c : Can} (h : okC c) (S : Nat) : 0 ≤ costS c S ∧ costS c S ≤ 10000 := by
  have := sumL_pos ((bitsN (pieces (needK c c.ships.length) S)).map fun p => c.cost.getD p 0) 1000 (fun x hx => by
    obtain ⟨p, _, rfl⟩ := List.mem_map.1 hx
    exact cost_getD h p)
  rw [List.length_map] at this
  have hl := bitsN_len (pieces (needK c c.ships.length) S)
  have h2 : (bitsN (pieces (needK c c.ships.length) S)).length * 1000 ≤ 10 * 1000 := Nat.mul_le_mul_right _ hl
  unfold costS costP
  omega
end Go.Ab.Dues

namespace Go.Ab.Dues
open Go.Ab.V
set_option maxRecDepth 100000
end Go.Ab.Dues

namespace Go.Ab.Dues
open Go.Ab.V
set_option maxRecDepth 100000
def bitsTo (S i : Nat) : List Nat := (List.range i).filter fun k => S.testBit k
theorem bitsTo_succ (S i : Nat) : bitsTo S (i + 1) = if S.testBit i = true then bitsTo S i ++ [i] else bitsTo S i := by
  unfold bitsTo
  rw [List.range_succ, List.filter_append, List.filter_cons]
  split <;> simp
theorem bitsTo_end {S i : Nat} (h : S < 2 ^ i) (hi : i ≤ 10) : bitsTo S i = bitsN S := by
  have : ∀ k, k ≤ 10 - i → bitsTo S (i + k) = bitsTo S i := by
    intro k
    induction k with
    | zero => intro _; rfl
    | succ k ih =>
      intro hk
      rw [show i + (k + 1) = (i + k) + 1 from rfl, bitsTo_succ, if_neg, ih (by omega)]
      rw [Nat.testBit_lt_two_pow (Nat.lt_of_lt_of_le h (Nat.pow_le_pow_right (by decide) (by omega)))]; simp
  have := this (10 - i) (Nat.le_refl _)
  rw [show i + (10 - i) = 10 from by omega] at this
  rw [← this]; rfl
theorem bitsTo_len (S i : Nat) : (bitsTo S i).length ≤ i := by
  unfold bitsTo
  have := List.length_filter_le (fun k => S.testBit k) (List.range i)
  rw [List.length_range] at this; exact this
theorem bit_mod (a p : Nat) : (a >>> p) % 2 = if a.testBit p = true then 1 else 0 := by
  rw [← Nat.and_one_is_mod, bit_and]
theorem canNeed {c : Can} {s : Nat} (hs : s < c.ships.length) : c.ships.getD s (-1) = c.ships[s] := by rw [List.getD_eq_getElem?_getD, List.getElem?_eq_getElem hs]; rfl
theorem shl_w {q : Nat} (h : q < 62) : IntKind.i64.wrap (1 * 2 ^ min q IntKind.i64.bits) = ((2 ^ q : Nat) : Int) := by
  have := shl_one h
  unfold shlA at this
  rw [if_neg (by omega), Int.toNat_natCast] at this
  injection this with this
  injection this
set_option maxHeartbeats 4000000 in
theorem RNeeds_ok (c : Can) (h : okC c) (s : Nat) (hs : s < c.ships.length) : VCall cfg 34 [canV c, vi s] [] [] (vi (ch c (c.ships.getD s (-1)) : Nat)) [] := by
  rw [canNeed hs]
  have hsh := h.ship _ (List.getElem_mem hs)
  have h10 := h.n10
  have h7 := h.s7
  generalize hp0 : c.ships[s] = p0 at *
  unfold canV
  (refine VCall.mk (fn := a34) rfl rfl rfl ?_; simp only [a34, inV, mkB, nmsL, PT.set])
  (repeat (first | refine VC.seq ?_ | refine VC.block ?_ | refine VC.kill ?_ | refine VC.skip ?_ | refine VC.exit ?_ | refine VC.regA ?_ | refine VC.condT ?_ | refine VC.condF ?_))
  simp only [hp0]
  refine VC.loopG (fun (q : Nat × Int) => ⟨inV [p2, p5, p6] [.op 0 p2 0, vi (q.1 : Nat), vi q.2] .lf, mkB [(p2, .cells [sl1 c.up, sl1 c.cost, sl1 c.ships])] .lf, [], none⟩) (fun n q => n = (q.2 + 1).toNat ∧ -1 ≤ q.2 ∧ q.2 < c.up.length ∧ q.1 < 1024 ∧ q.1 ||| ch c q.2 = ch c p0) (x := (0, p0)) ?_ ⟨rfl, by simp only; omega, hsh.2, by simp, by simp⟩ ?_
  · (apply Go.Ab.V.G.weak; constructor <;> simp (config := {decide := true}) only [PT.Le, inV, mkB, PT.set, VSt.kill, VSt.adopt, VSt.alloc, PT.filt, PT.map, List.map_cons, List.map_nil, noref, norefB, deadB, deadV, nos, nm, nmL, nmB, nmE, Pa.eqb, cond_true, cond_false, Bool.not_true, Bool.not_false, Bool.and_true, Bool.true_and, nmL_vi, flV_len, flP_len, flV_nm, flV_ok, flV_pv, flP_map, drop_flP, drop_flV, putC_flV, eqV2, eqV3, bneT, bneF, decide_true, decide_false, frzL_vi, frzL_flV, nmE_ag, nmE_at, frzE_ag, frzE_at, ofAg_len, ofAt_len, atL_vi, nmL_map_p, frzL_map_p, okL_p, toPVs_p, repsZ, nmL_reps, putC_vi, get_flV0, get_flV1, Int.toNat_zero, Int.toNat_one, Int.reduceToNat, eqV_slice, eqV_ptr, eqV_func, nilS, nilP, nilF, nmL_append, true_or, or_true, and_self, true_and, and_true, Option.some.injEq, reduceCtorEq, false_or, or_false, VV.p.injEq, PV.at.injEq, Value.int.injEq, sl1, vi, bl1, vb, nilV, sl1])
    (all_goals first | rfl | omega | exact ⟨rfl, by omega⟩)
  rintro n' ⟨acc, p⟩ ⟨hn', hp0', hp1, hacc, hor⟩
  simp only at hn' hp0' hp1 hacc hor
  simp only [inV, PT.set, mkB]
  (repeat (first | refine VC.seq ?_ | refine VC.block ?_ | refine VC.kill ?_ | refine VC.skip ?_ | refine VC.exit ?_ | refine VC.regA ?_ | refine VC.condT ?_ | refine VC.condF ?_))
  refine VC.condA ?_ ?_ <;> intro h2 <;> (simp only [decide_eq_true_eq, decide_eq_false_iff_not, bne_iff_ne, ne_eq, bne_eq_false_iff_eq, beq_iff_eq, beq_eq_false_iff_ne, Bool.not_eq_true', Bool.not_eq_false', Bool.and_eq_true, Bool.or_eq_true, Int.natCast_inj] at h2)
  · obtain ⟨q, rfl⟩ := Int.eq_ofNat_of_zero_le h2
    have hq : q < c.up.length := by omega
    have hu := up_get h hq
    rw [List.getD_eq_getElem?_getD, List.getElem?_eq_getElem hq, Option.getD_some] at hu
    have hstep := ch_step h hq
    have hsh1 := shl_one (n := q) (by omega)
    have hp10 : 2 ^ q < 1024 := Nat.pow_lt_pow_right (n := 10) (by decide) (by omega)
    have hor1 := or_i64 (a := acc) (b := 2 ^ q) (by omega) (by omega)
    (repeat (first | refine VC.seq ?_ | refine VC.block ?_ | refine VC.kill ?_ | refine VC.skip ?_ | refine VC.exit ?_ | refine VC.regA ?_ | refine VC.condT ?_ | refine VC.condF ?_))
    ((try (apply VC.regU; · ((simp (config := {decide := false, maxSteps := 1000000}) (disch := omega) only [vev_call, putC_c0, putC_n0, putC_cs, ble0, List.getElem?_cons_zero, List.getElem?_cons_succ, runU, isCall, wantV, vev, evV, ofVal, ofAtom, atomB, cond_true, cond_false, PT.get, PT.set, PT.filt, PT.map, Option.getD_some, Option.getD_none, ret1V, ret1X, v_ld, v_ias, v_iad, v_fad, v_slsl, v_slarr, v_st, v_app, v_cpy, v_clr, v_len, v_look, v_mset, elsV, partV, newV, free, atV, atI, atL, toVal, cellsV, okV, VSt.put, VSt.kill, VSt.alloc, VSt.frz, VSt.adopt, noref, norefB, deadB, deadV, nos, nm, nmL, nmB, nmE, Pa.eqb, Bool.not_false, Bool.not_true, Bool.and_true, Bool.true_and, Bool.false_and, Bool.and_false, bin, intOps, intBin, cvt, un, goInt, bndsV, bndV, Option.map_some, Option.map_none, List.map_cons, List.map_nil, Int.toNat_natCast, Nat.mul_one, Nat.zero_add, beq_true, beq_false, beq_self_eq_true, List.length_map, List.length_cons, List.length_nil, List.length_append, fillV, pEvV, repsV, List.append_nil, List.nil_append, if_pos, if_neg, reduceIte, List.getElem?_map, List.getElem?_drop, Nat.add_zero, List.getElem?_eq_getElem, Go.IntWalk.i64_in, wrap_u64, tmod_pos, eq_self, true_and, and_true, and_self, List.all_cons, List.all_nil, nmL_vi, flV_len, flP_len, flV_nm, flV_ok, flV_pv, flP_map, drop_flP, drop_flV, putC_flV, eqV2, eqV3, bneT, bneF, decide_true, decide_false, frzL_vi, frzL_flV, nmE_ag, nmE_at, frzE_ag, frzE_at, ofAg_len, ofAt_len, atL_vi, nmL_map_p, frzL_map_p, okL_p, toPVs_p, repsZ, nmL_reps, putC_vi, get_flV0, get_flV1, Int.toNat_zero, Int.toNat_one, Int.reduceToNat, eqV_slice, eqV_ptr, eqV_func, nilS, nilP, nilF, nmL_append, okL_vi, toPVs_vi, toPVs, toPV, frzV, frzL, frzB, resVV, vi, vb, nilV, sl1, bl1, pi, foldV, max2, min2, max_eq, min_eq, Int.tdiv_eq_ediv_of_nonneg, Int.cast_ofNat_Int, Option.isSome_none, Option.isSome_some, Option.isNone_none, Option.isNone_some, and_false, false_and, sl2, sl1P, slP, min_cast, take_map_pi, map_pi, Nat.sub_zero, Nat.zero_mul, List.length_take, decide_eq_true, decide_eq_false, Bool.true_eq_false, Bool.false_eq_true, beqT, beqF, ibeq, ibne, List.take_zero, List.take_succ_cons, List.drop_zero, List.drop_succ_cons, List.drop_nil, List.take_nil, List.cons_append, Bool.not_true, Bool.not_false, hsh1, hor1]); rfl))); (repeat (first | refine VC.seq ?_ | refine VC.block ?_ | refine VC.kill ?_ | refine VC.skip ?_ | refine VC.exit ?_ | refine VC.regA ?_ | refine VC.condT ?_ | refine VC.condF ?_)))
    refine ⟨_, (acc ||| 2 ^ q, c.up[q]), ?_, ⟨rfl, by simp only; omega, by simp only; omega, or_lt (m := 10) hacc hp10, ?_⟩, ?_⟩
    · simp only; omega
    · simp only
      rw [← hor, hstep, Nat.or_assoc]
    · (apply Go.Ab.V.G.weak; constructor <;> simp (config := {decide := true}) only [PT.Le, inV, mkB, PT.set, VSt.kill, VSt.adopt, VSt.alloc, PT.filt, PT.map, List.map_cons, List.map_nil, noref, norefB, deadB, deadV, nos, nm, nmL, nmB, nmE, Pa.eqb, cond_true, cond_false, Bool.not_true, Bool.not_false, Bool.and_true, Bool.true_and, nmL_vi, flV_len, flP_len, flV_nm, flV_ok, flV_pv, flP_map, drop_flP, drop_flV, putC_flV, eqV2, eqV3, bneT, bneF, decide_true, decide_false, frzL_vi, frzL_flV, nmE_ag, nmE_at, frzE_ag, frzE_at, ofAg_len, ofAt_len, atL_vi, nmL_map_p, frzL_map_p, okL_p, toPVs_p, repsZ, nmL_reps, putC_vi, get_flV0, get_flV1, Int.toNat_zero, Int.toNat_one, Int.reduceToNat, eqV_slice, eqV_ptr, eqV_func, nilS, nilP, nilF, nmL_append, true_or, or_true, and_self, true_and, and_true, Option.some.injEq, reduceCtorEq, false_or, or_false, VV.p.injEq, PV.at.injEq, Value.int.injEq, sl1, vi, bl1, vb, nilV, sl1])
      · rw [shl_w (by omega), hor1]
  · have h2 : p = -1 := by omega
    subst h2
    rw [ch_neg (by omega), Nat.or_zero] at hor
    subst hor
    (repeat (first | refine VC.seq ?_ | refine VC.block ?_ | refine VC.kill ?_ | refine VC.skip ?_ | refine VC.exit ?_ | refine VC.regA ?_ | refine VC.condT ?_ | refine VC.condF ?_))
    exact VC.ret (Fin.A rfl)
end Go.Ab.Dues

namespace Go.Ab.Dues
open Go.Ab.V
set_option maxRecDepth 100000
theorem sumL_snoc (l : List Int) (x : Int) : sumL (l ++ [x]) = sumL l + x := by unfold sumL; rw [List.foldl_append]; rfl
def psum (c : Can) (P i : Nat) : Int := sumL ((bitsTo P i).map fun p => c.cost.getD p 0)
theorem psum_bd {c : Can} (h : okC c) (P i : Nat) (hi : i ≤ 10) : 0 ≤ psum c P i ∧ psum c P i ≤ 10000 := by
  have := sumL_pos ((bitsTo P i).map fun p => c.cost.getD p 0) 1000 (fun x hx => by
    obtain ⟨p, _, rfl⟩ := List.mem_map.1 hx
    exact cost_getD h p)
  rw [List.length_map] at this
  have hl := bitsTo_len P i
  have h2 : (bitsTo P i).length * 1000 ≤ 10 * 1000 := Nat.mul_le_mul_right _ (by omega)
  unfold psum
  omega
set_option maxHeartbeats 4000000 in
theorem RCost_ok (c : Can) (h : okC c) (P : Nat) (hP : P < 2 ^ c.cost.length) : VCall cfg 60 [canV c, vi P] [] [] (vi (costP c.cost P)) [] := by
  have h10 := h.n10
  have hcl := h.cl
  have hend : psum c P c.cost.length = costP c.cost P := by unfold psum costP; rw [bitsTo_end hP (by omega)]
  unfold canV
  (refine VCall.mk (fn := a60) rfl rfl rfl ?_; simp only [a60, inV, mkB, nmsL, PT.set])
  (repeat (first | refine VC.seq ?_ | refine VC.block ?_ | refine VC.kill ?_ | refine VC.skip ?_ | refine VC.exit ?_ | refine VC.regA ?_ | refine VC.condT ?_ | refine VC.condF ?_))
  refine VC.loopG (fun (i : Nat) => ⟨inV [p1, p2, p5, p6] [vi P, .op 0 p2 0, vi (psum c P i), vi i] .lf, mkB [(p2, .cells [sl1 c.up, sl1 c.cost, sl1 c.ships])] .lf, [], none⟩) (fun n i => n = c.cost.length - i ∧ i ≤ c.cost.length) (x := 0) ?_ ⟨rfl, Nat.zero_le _⟩ ?_
  · have : psum c P 0 = 0 := rfl
    (apply Go.Ab.V.G.weak; constructor <;> simp (config := {decide := true}) only [PT.Le, inV, mkB, PT.set, VSt.kill, VSt.adopt, VSt.alloc, PT.filt, PT.map, List.map_cons, List.map_nil, noref, norefB, deadB, deadV, nos, nm, nmL, nmB, nmE, Pa.eqb, cond_true, cond_false, Bool.not_true, Bool.not_false, Bool.and_true, Bool.true_and, nmL_vi, flV_len, flP_len, flV_nm, flV_ok, flV_pv, flP_map, drop_flP, drop_flV, putC_flV, eqV2, eqV3, bneT, bneF, decide_true, decide_false, frzL_vi, frzL_flV, nmE_ag, nmE_at, frzE_ag, frzE_at, ofAg_len, ofAt_len, atL_vi, nmL_map_p, frzL_map_p, okL_p, toPVs_p, repsZ, nmL_reps, putC_vi, get_flV0, get_flV1, Int.toNat_zero, Int.toNat_one, Int.reduceToNat, eqV_slice, eqV_ptr, eqV_func, nilS, nilP, nilF, nmL_append, true_or, or_true, and_self, true_and, and_true, Option.some.injEq, reduceCtorEq, false_or, or_false, VV.p.injEq, PV.at.injEq, Value.int.injEq, sl1, vi, bl1, vb, nilV, sl1, this])
    (all_goals first | rfl | omega | exact ⟨rfl, by omega⟩)
  rintro n i ⟨hn, hi⟩
  simp only [inV, PT.set, mkB]
  have hb := psum_bd h P i (by omega)
  have hfin : i = c.cost.length → psum c P i = costP c.cost P := fun e => by rw [e, hend]
  have hps : psum c P (i + 1) = psum c P i + (if P.testBit i = true then c.cost.getD i 0 else 0) := by
    unfold psum
    rw [bitsTo_succ]
    split
    · rw [List.map_append, List.map_cons, List.map_nil, sumL_snoc]
    · omega
  generalize psum c P i = u at *
  (repeat (first | refine VC.seq ?_ | refine VC.block ?_ | refine VC.kill ?_ | refine VC.skip ?_ | refine VC.exit ?_ | refine VC.regA ?_ | refine VC.condT ?_ | refine VC.condF ?_))
  refine VC.condA ?_ ?_ <;> intro h' <;> (simp only [decide_eq_true_eq, decide_eq_false_iff_not, bne_iff_ne, ne_eq, bne_eq_false_iff_eq, beq_iff_eq, beq_eq_false_iff_ne, Bool.not_eq_true', Bool.not_eq_false', Bool.and_eq_true, Bool.or_eq_true, Int.natCast_inj] at h')
  · have h' : i < c.cost.length := by omega
    have hci := h.cost i h'
    have hgd : c.cost.getD i 0 = c.cost[i] := by rw [List.getD_eq_getElem?_getD, List.getElem?_eq_getElem h']; rfl
    rw [hgd] at hps
    have hsr := shr_i64 (a := P) (n := i) (by omega)
    have hbm := bit_mod P i
    generalize hw : P >>> i = w at *
    have htm : (w : Int).tmod 2 = ((w % 2 : Nat) : Int) := by rw [Int.tmod_eq_emod_of_nonneg (by omega)]; omega
    generalize hcc : c.cost[i] = ci at *
    cases hbt : P.testBit i with
    | true =>
      rw [hbt] at hps hbm
      simp only [if_true] at hps hbm
      rw [hbm] at htm
      have hw1 : IntKind.i64.wrap (u + IntKind.i64.wrap ((w : Int) % 2 * ci)) = u + ci := by
        rw [show (w : Int) % 2 = 1 from by omega, Int.one_mul, wrapI (x := ci) (by omega) (by omega), wrapI (by omega) (by omega)]
      (repeat (first | refine VC.seq ?_ | refine VC.block ?_ | refine VC.kill ?_ | refine VC.skip ?_ | refine VC.exit ?_ | refine VC.regA ?_ | refine VC.condT ?_ | refine VC.condF ?_))
      ((try (apply VC.regU; · ((simp (config := {decide := false, maxSteps := 1000000}) (disch := omega) only [vev_call, putC_c0, putC_n0, putC_cs, ble0, List.getElem?_cons_zero, List.getElem?_cons_succ, runU, isCall, wantV, vev, evV, ofVal, ofAtom, atomB, cond_true, cond_false, PT.get, PT.set, PT.filt, PT.map, Option.getD_some, Option.getD_none, ret1V, ret1X, v_ld, v_ias, v_iad, v_fad, v_slsl, v_slarr, v_st, v_app, v_cpy, v_clr, v_len, v_look, v_mset, elsV, partV, newV, free, atV, atI, atL, toVal, cellsV, okV, VSt.put, VSt.kill, VSt.alloc, VSt.frz, VSt.adopt, noref, norefB, deadB, deadV, nos, nm, nmL, nmB, nmE, Pa.eqb, Bool.not_false, Bool.not_true, Bool.and_true, Bool.true_and, Bool.false_and, Bool.and_false, bin, intOps, intBin, cvt, un, goInt, bndsV, bndV, Option.map_some, Option.map_none, List.map_cons, List.map_nil, Int.toNat_natCast, Nat.mul_one, Nat.zero_add, beq_true, beq_false, beq_self_eq_true, List.length_map, List.length_cons, List.length_nil, List.length_append, fillV, pEvV, repsV, List.append_nil, List.nil_append, if_pos, if_neg, reduceIte, List.getElem?_map, List.getElem?_drop, Nat.add_zero, List.getElem?_eq_getElem, Go.IntWalk.i64_in, wrap_u64, tmod_pos, eq_self, true_and, and_true, and_self, List.all_cons, List.all_nil, nmL_vi, flV_len, flP_len, flV_nm, flV_ok, flV_pv, flP_map, drop_flP, drop_flV, putC_flV, eqV2, eqV3, bneT, bneF, decide_true, decide_false, frzL_vi, frzL_flV, nmE_ag, nmE_at, frzE_ag, frzE_at, ofAg_len, ofAt_len, atL_vi, nmL_map_p, frzL_map_p, okL_p, toPVs_p, repsZ, nmL_reps, putC_vi, get_flV0, get_flV1, Int.toNat_zero, Int.toNat_one, Int.reduceToNat, eqV_slice, eqV_ptr, eqV_func, nilS, nilP, nilF, nmL_append, okL_vi, toPVs_vi, toPVs, toPV, frzV, frzL, frzB, resVV, vi, vb, nilV, sl1, bl1, pi, foldV, max2, min2, max_eq, min_eq, Int.tdiv_eq_ediv_of_nonneg, Int.cast_ofNat_Int, Option.isSome_none, Option.isSome_some, Option.isNone_none, Option.isNone_some, and_false, false_and, sl2, sl1P, slP, min_cast, take_map_pi, map_pi, Nat.sub_zero, Nat.zero_mul, List.length_take, decide_eq_true, decide_eq_false, Bool.true_eq_false, Bool.false_eq_true, beqT, beqF, ibeq, ibne, List.take_zero, List.take_succ_cons, List.drop_zero, List.drop_succ_cons, List.drop_nil, List.take_nil, List.cons_append, Bool.not_true, Bool.not_false, hsr, htm, hcc, hw1]); rfl))); (repeat (first | refine VC.seq ?_ | refine VC.block ?_ | refine VC.kill ?_ | refine VC.skip ?_ | refine VC.exit ?_ | refine VC.regA ?_ | refine VC.condT ?_ | refine VC.condF ?_)))
      refine ⟨_, i + 1, ?_, ⟨rfl, by omega⟩, ?_⟩
      · omega
      · (apply Go.Ab.V.G.weak; constructor <;> simp (config := {decide := true}) only [PT.Le, inV, mkB, PT.set, VSt.kill, VSt.adopt, VSt.alloc, PT.filt, PT.map, List.map_cons, List.map_nil, noref, norefB, deadB, deadV, nos, nm, nmL, nmB, nmE, Pa.eqb, cond_true, cond_false, Bool.not_true, Bool.not_false, Bool.and_true, Bool.true_and, nmL_vi, flV_len, flP_len, flV_nm, flV_ok, flV_pv, flP_map, drop_flP, drop_flV, putC_flV, eqV2, eqV3, bneT, bneF, decide_true, decide_false, frzL_vi, frzL_flV, nmE_ag, nmE_at, frzE_ag, frzE_at, ofAg_len, ofAt_len, atL_vi, nmL_map_p, frzL_map_p, okL_p, toPVs_p, repsZ, nmL_reps, putC_vi, get_flV0, get_flV1, Int.toNat_zero, Int.toNat_one, Int.reduceToNat, eqV_slice, eqV_ptr, eqV_func, nilS, nilP, nilF, nmL_append, true_or, or_true, and_self, true_and, and_true, Option.some.injEq, reduceCtorEq, false_or, or_false, VV.p.injEq, PV.at.injEq, Value.int.injEq, sl1, vi, bl1, vb, nilV, sl1, hps])
        (all_goals first | rfl | omega | exact ⟨rfl, by omega⟩)
    | false =>
      rw [hbt] at hps hbm
      simp only [Bool.false_eq_true, if_false] at hps hbm
      rw [hbm] at htm
      have hw1 : IntKind.i64.wrap (u + IntKind.i64.wrap ((w : Int) % 2 * ci)) = u + 0 := by
        rw [show (w : Int) % 2 = 0 from by omega, Int.zero_mul, wrapI (x := 0) (by omega) (by omega), wrapI (by omega) (by omega)]
      (repeat (first | refine VC.seq ?_ | refine VC.block ?_ | refine VC.kill ?_ | refine VC.skip ?_ | refine VC.exit ?_ | refine VC.regA ?_ | refine VC.condT ?_ | refine VC.condF ?_))
      ((try (apply VC.regU; · ((simp (config := {decide := false, maxSteps := 1000000}) (disch := omega) only [vev_call, putC_c0, putC_n0, putC_cs, ble0, List.getElem?_cons_zero, List.getElem?_cons_succ, runU, isCall, wantV, vev, evV, ofVal, ofAtom, atomB, cond_true, cond_false, PT.get, PT.set, PT.filt, PT.map, Option.getD_some, Option.getD_none, ret1V, ret1X, v_ld, v_ias, v_iad, v_fad, v_slsl, v_slarr, v_st, v_app, v_cpy, v_clr, v_len, v_look, v_mset, elsV, partV, newV, free, atV, atI, atL, toVal, cellsV, okV, VSt.put, VSt.kill, VSt.alloc, VSt.frz, VSt.adopt, noref, norefB, deadB, deadV, nos, nm, nmL, nmB, nmE, Pa.eqb, Bool.not_false, Bool.not_true, Bool.and_true, Bool.true_and, Bool.false_and, Bool.and_false, bin, intOps, intBin, cvt, un, goInt, bndsV, bndV, Option.map_some, Option.map_none, List.map_cons, List.map_nil, Int.toNat_natCast, Nat.mul_one, Nat.zero_add, beq_true, beq_false, beq_self_eq_true, List.length_map, List.length_cons, List.length_nil, List.length_append, fillV, pEvV, repsV, List.append_nil, List.nil_append, if_pos, if_neg, reduceIte, List.getElem?_map, List.getElem?_drop, Nat.add_zero, List.getElem?_eq_getElem, Go.IntWalk.i64_in, wrap_u64, tmod_pos, eq_self, true_and, and_true, and_self, List.all_cons, List.all_nil, nmL_vi, flV_len, flP_len, flV_nm, flV_ok, flV_pv, flP_map, drop_flP, drop_flV, putC_flV, eqV2, eqV3, bneT, bneF, decide_true, decide_false, frzL_vi, frzL_flV, nmE_ag, nmE_at, frzE_ag, frzE_at, ofAg_len, ofAt_len, atL_vi, nmL_map_p, frzL_map_p, okL_p, toPVs_p, repsZ, nmL_reps, putC_vi, get_flV0, get_flV1, Int.toNat_zero, Int.toNat_one, Int.reduceToNat, eqV_slice, eqV_ptr, eqV_func, nilS, nilP, nilF, nmL_append, okL_vi, toPVs_vi, toPVs, toPV, frzV, frzL, frzB, resVV, vi, vb, nilV, sl1, bl1, pi, foldV, max2, min2, max_eq, min_eq, Int.tdiv_eq_ediv_of_nonneg, Int.cast_ofNat_Int, Option.isSome_none, Option.isSome_some, Option.isNone_none, Option.isNone_some, and_false, false_and, sl2, sl1P, slP, min_cast, take_map_pi, map_pi, Nat.sub_zero, Nat.zero_mul, List.length_take, decide_eq_true, decide_eq_false, Bool.true_eq_false, Bool.false_eq_true, beqT, beqF, ibeq, ibne, List.take_zero, List.take_succ_cons, List.drop_zero, List.drop_succ_cons, List.drop_nil, List.take_nil, List.cons_append, Bool.not_true, Bool.not_false, hsr, htm, hcc, hw1]); rfl))); (repeat (first | refine VC.seq ?_ | refine VC.block ?_ | refine VC.kill ?_ | refine VC.skip ?_ | refine VC.exit ?_ | refine VC.regA ?_ | refine VC.condT ?_ | refine VC.condF ?_)))
      refine ⟨_, i + 1, ?_, ⟨rfl, by omega⟩, ?_⟩
      · omega
      · (apply Go.Ab.V.G.weak; constructor <;> simp (config := {decide := true}) only [PT.Le, inV, mkB, PT.set, VSt.kill, VSt.adopt, VSt.alloc, PT.filt, PT.map, List.map_cons, List.map_nil, noref, norefB, deadB, deadV, nos, nm, nmL, nmB, nmE, Pa.eqb, cond_true, cond_false, Bool.not_true, Bool.not_false, Bool.and_true, Bool.true_and, nmL_vi, flV_len, flP_len, flV_nm, flV_ok, flV_pv, flP_map, drop_flP, drop_flV, putC_flV, eqV2, eqV3, bneT, bneF, decide_true, decide_false, frzL_vi, frzL_flV, nmE_ag, nmE_at, frzE_ag, frzE_at, ofAg_len, ofAt_len, atL_vi, nmL_map_p, frzL_map_p, okL_p, toPVs_p, repsZ, nmL_reps, putC_vi, get_flV0, get_flV1, Int.toNat_zero, Int.toNat_one, Int.reduceToNat, eqV_slice, eqV_ptr, eqV_func, nilS, nilP, nilF, nmL_append, true_or, or_true, and_self, true_and, and_true, Option.some.injEq, reduceCtorEq, false_or, or_false, VV.p.injEq, PV.at.injEq, Value.int.injEq, sl1, vi, bl1, vb, nilV, sl1, hps])
        (all_goals first | rfl | omega | exact ⟨rfl, by omega⟩)
  · have hf := hfin (by omega)
    subst hf
    (repeat (first | refine VC.seq ?_ | refine VC.block ?_ | refine VC.kill ?_ | refine VC.skip ?_ | refine VC.exit ?_ | refine VC.regA ?_ | refine VC.condT ?_ | refine VC.condF ?_))
    exact VC.ret (Fin.A rfl)
theorem pieces_lt2 {c : Can} (h : okC c) (k S : Nat) : pieces (needK c k) S < 2 ^ c.cost.length := by
  apply Nat.lt_pow_two_of_testBit
  intro i hi
  cases hb : (pieces (needK c k) S).testBit i with
  | false => rfl
  | true =>
    obtain ⟨s, _, hs⟩ := pieces_bit.1 hb
    have := needK_bit h hs
    have := h.cl
    omega
end Go.Ab.Dues

namespace Go.Ab.Dues
/-! ### Set functions: plain sums over ranges -/
def sq (f : Nat → Int) (q : Nat → Bool) : Nat → Int
  | 0 => 0
  | n + 1 => sq f q n + bif q n then f n else 0
theorem sq_pos {f : Nat → Int} (hf : ∀ i, 0 ≤ f i) (q : Nat → Bool) : ∀ n, 0 ≤ sq f q n
  | 0 => Int.le_refl _
  | n + 1 => by
    have := sq_pos hf q n
    have := hf n
    unfold sq
    cases q n <;> simp only [cond_true, cond_false] <;> omega
theorem sq_mono {f : Nat → Int} (hf : ∀ i, 0 ≤ f i) {q q' : Nat → Bool} (h : ∀ i, q i = true → q' i = true) : ∀ n, sq f q n ≤ sq f q' n
  | 0 => Int.le_refl _
  | n + 1 => by
    have := sq_mono hf h n
    have h1 := hf n
    have h2 := h n
    simp only [sq]
    clear h
    generalize q n = a at *; generalize q' n = b at *
    cases a <;> cases b <;> simp at h2 <;> simp only [cond_true, cond_false, Bool.and_true, Bool.and_false, Bool.not_true, Bool.not_false] <;> omega
theorem sq_mod (f : Nat → Int) (q q' : Nat → Bool) : ∀ n, sq f (fun i => q i || q' i) n + sq f (fun i => q i && q' i) n = sq f q n + sq f q' n
  | 0 => rfl
  | n + 1 => by
    have := sq_mod f q q' n
    simp only [sq]
    generalize q n = a; generalize q' n = b
    cases a <;> cases b <;> simp only [cond_true, cond_false, Bool.and_true, Bool.and_false, Bool.or_true, Bool.or_false] <;> omega
theorem sq_congr {f : Nat → Int} {q q' : Nat → Bool} (h : ∀ i, q i = q' i) (n : Nat) : sq f q n = sq f q' n := by
  rw [show q = q' from funext h]
theorem sq_split (f : Nat → Int) {q q' : Nat → Bool} (h : ∀ i, q i = true → q' i = true) : ∀ n, sq f q' n = sq f q n + sq f (fun i => q' i && !q i) n
  | 0 => rfl
  | n + 1 => by
    have := sq_split f h n
    have h2 := h n
    simp only [sq]
    clear h
    generalize q n = a at *; generalize q' n = b at *
    cases a <;> cases b <;> simp at h2 <;> simp only [cond_true, cond_false, Bool.and_true, Bool.and_false, Bool.not_true, Bool.not_false] <;> omega
/-- The pieces that a set needs. -/
def unB (nb : Nat → Nat → Bool) (q : Nat → Bool) (n i : Nat) : Bool := (List.range n).any fun s => q s && nb s i
theorem un_succ (nb : Nat → Nat → Bool) (q : Nat → Bool) (n i : Nat) : unB nb q (n + 1) i = (unB nb q n i || (q n && nb n i)) := by
  unfold unB; rw [List.range_succ, List.any_append]; simp
theorem un_mono (nb : Nat → Nat → Bool) {q q' : Nat → Bool} (h : ∀ i, q i = true → q' i = true) (n i : Nat) (hu : unB nb q n i = true) : unB nb q' n i = true := by
  unfold unB at *
  obtain ⟨s, hs, e⟩ := List.any_eq_true.1 hu
  rw [Bool.and_eq_true] at e
  exact List.any_eq_true.2 ⟨s, hs, by rw [Bool.and_eq_true]; exact ⟨h s e.1, e.2⟩⟩
theorem un_or (nb : Nat → Nat → Bool) (q q' : Nat → Bool) (n i : Nat) : unB nb (fun s => q s || q' s) n i = (unB nb q n i || unB nb q' n i) := by
  induction n with
  | zero => rfl
  | succ n ih =>
    rw [un_succ, un_succ, un_succ, ih]
    cases unB nb q n i <;> cases unB nb q' n i <;> cases q n <;> cases q' n <;> cases nb n i <;> rfl
theorem cost_own {f : Nat → Int} (hf : ∀ i, 0 ≤ f i) (nb : Nat → Nat → Bool) (own : Nat → Int) (m : Nat) (ho : ∀ s, own s = sq f (nb s) m) (q : Nat → Bool) : ∀ n, sq f (unB nb q n) m ≤ sq own q n
  | 0 => by
    have : ∀ k, sq f (unB nb q 0) k = 0 := fun k => by
      induction k with
      | zero => rfl
      | succ k ih => unfold sq; rw [ih]; rfl
    rw [this]; exact Int.le_refl _
  | n + 1 => by
    have ih := cost_own hf nb own m ho q n
    have e : unB nb q (n + 1) = fun i => unB nb q n i || (q n && nb n i) := funext fun i => un_succ nb q n i
    have h1 := sq_mod f (unB nb q n) (fun i => q n && nb n i) m
    have h2 := sq_pos hf (fun i => unB nb q n i && (q n && nb n i)) m
    rw [e]
    show _ ≤ sq own q n + _
    have h3 : sq f (fun i => q n && nb n i) m = bif q n then own n else 0 := by
      cases hq : q n
      · have : ∀ k, sq f (fun i => false && nb n i) k = 0 := fun k => by
          induction k with
          | zero => rfl
          | succ k ih => unfold sq; rw [ih]; rfl
        rw [this]; rfl
      · rw [cond_true, ho]; exact sq_congr (fun i => Bool.true_and _) m
    omega
theorem cost_sub {f : Nat → Int} (hf : ∀ i, 0 ≤ f i) (nb : Nat → Nat → Bool) (q q' : Nat → Bool) (n m : Nat) :
    sq f (unB nb (fun i => q i || q' i) n) m + sq f (unB nb (fun i => q i && q' i) n) m ≤ sq f (unB nb q n) m + sq f (unB nb q' n) m := by
  have e : unB nb (fun i => q i || q' i) n = fun i => unB nb q n i || unB nb q' n i := funext fun i => un_or nb q q' n i
  have h1 := sq_mod f (unB nb q n) (unB nb q' n) m
  have h2 : sq f (unB nb (fun i => q i && q' i) n) m ≤ sq f (fun i => unB nb q n i && unB nb q' n i) m := sq_mono hf (fun i h => by
    rw [Bool.and_eq_true]
    exact ⟨un_mono nb (fun s hs => (Bool.and_eq_true _ _ ▸ hs).1) n i h, un_mono nb (fun s hs => (Bool.and_eq_true _ _ ▸ hs).2) n i h⟩) m
  rw [e]; omega
theorem cost_mono {f : Nat → Int} (hf : ∀ i, 0 ≤ f i) (nb : Nat → Nat → Bool) {q q' : Nat → Bool} (h : ∀ i, q i = true → q' i = true) (n m : Nat) : sq f (unB nb q n) m ≤ sq f (unB nb q' n) m :=
  sq_mono hf (fun i hu => un_mono nb h n i hu) m
theorem gain_mono {f : Nat → Int} (hf : ∀ i, 0 ≤ f i) (nb : Nat → Nat → Bool) (own : Nat → Int) (m : Nat) (ho : ∀ s, own s = sq f (nb s) m) {q q' : Nat → Bool} (h : ∀ i, q i = true → q' i = true) (n : Nat) :
    sq own q n - sq f (unB nb q n) m ≤ sq own q' n - sq f (unB nb q' n) m := by
  have h1 := sq_split own h n
  have h2 := cost_own hf nb own m ho (fun i => q' i && !q i) n
  have h3 := cost_sub hf nb q (fun i => q' i && !q i) n m
  have h4 : sq f (unB nb (fun i => q i || (q' i && !q i)) n) m = sq f (unB nb q' n) m := by
    congr 2
    funext i
    have := h i
    cases e : q i <;> cases e' : q' i <;> simp_all
  have h5 := sq_pos hf (unB nb (fun i => q i && (q' i && !q i)) n) m
  omega
end Go.Ab.Dues

namespace Go.Ab.Dues
open Go.Ab.V
set_option maxRecDepth 100000
end Go.Ab.Dues

namespace Go.Ab.Dues
open Go.Ab.V
set_option maxRecDepth 100000
end Go.Ab.Dues

namespace Go.Ab.Dues
open Go.Ab.V
set_option maxRecDepth 100000
def tn (c : Can) : Nat := max 1 (min c.up.length 10)
def upT (c : Can) (i : Nat) : List Int := (List.range i).map fun (k : Nat) => if k = 0 then -1 else c.up.getD k 0 % 18446744073709551616 % k
def costT (c : Can) (i : Nat) : List Int := (List.range i).map fun k => if k < c.cost.length then c.cost.getD k 0 % 18446744073709551616 % 1001 else 1
def shipT (c : Can) (i : Nat) : List Int := (c.ships.take i).map fun x => x % 18446744073709551616 % (tn c : Nat)
def tameC (c : Can) (m : Nat) : Can := ⟨upT c (tn c), costT c (tn c), shipT c m⟩
theorem upT_len (c : Can) (i : Nat) : (upT c i).length = i := by simp [upT]
theorem costT_len (c : Can) (i : Nat) : (costT c i).length = i := by simp [costT]
theorem upT_succ (c : Can) (i : Nat) : upT c (i + 1) = upT c i ++ [if i = 0 then -1 else c.up.getD i 0 % 18446744073709551616 % i] := by simp [upT, List.range_succ]
theorem costT_succ (c : Can) (i : Nat) : costT c (i + 1) = costT c i ++ [if i < c.cost.length then c.cost.getD i 0 % 18446744073709551616 % 1001 else 1] := by simp [costT, List.range_succ]
theorem shipT_succ (c : Can) (i : Nat) (h : i < c.ships.length) : shipT c (i + 1) = shipT c i ++ [c.ships[i] % 18446744073709551616 % (tn c : Nat)] := by
  unfold shipT; rw [List.take_add_one, List.getElem?_eq_getElem h, List.map_append]; rfl
theorem shipT_len (c : Can) (i : Nat) : (shipT c i).length = min i c.ships.length := by simp [shipT]
theorem tame_okC (c : Can) (m : Nat) (hm : m ≤ 7) : okC (tameC c m) := by
  have hn : 1 ≤ tn c ∧ tn c ≤ 10 := by unfold tn; omega
  refine ⟨?_, ?_, ?_, ?_, ?_, ?_, ?_, ?_⟩
  · simp only [tameC, upT_len]; omega
  · simp only [tameC, upT_len]; omega
  · simp only [tameC, upT_len, costT_len]
  · simp only [tameC, shipT_len]; omega
  · intro h; simp [tameC, upT]
  · intro i h hi
    simp only [tameC, upT, List.getElem_map, List.getElem_range, if_neg (show ¬i = 0 by omega)]
    exact ⟨Int.emod_nonneg _ (by omega), Int.emod_lt_of_pos _ (by omega)⟩
  · intro i h
    simp only [tameC, costT, List.getElem_map, List.getElem_range]
    split <;> omega
  · intro x hx
    simp only [tameC, shipT, List.mem_map] at hx
    obtain ⟨y, _, rfl⟩ := hx
    simp only [tameC, upT_len]
    exact ⟨Int.emod_nonneg _ (by omega), Int.emod_lt_of_pos _ (by omega)⟩
set_option maxHeartbeats 8000000 in
theorem tame_ok (c : Can) (m : Nat) (hm : m ≤ 7) (h1 : c.up.length ≤ 9223372036854775807) (h2 : c.cost.length ≤ 9223372036854775807) (h3 : c.ships.length ≤ 9223372036854775807) : VCall cfg 15 [canV c, vi m] [] [] (canV (tameC c m)) [] := by
  have hn : 1 ≤ tn c ∧ tn c ≤ 10 := by unfold tn; omega
  have hnc : max 1 (min (c.up.length : Int) 10) = (tn c : Int) := by unfold tn; omega
  have hnup : ∀ i, i < tn c → 0 < i → i < c.up.length := fun i h0 h1 => by unfold tn at h0; omega
  have hul := upT_len c
  have hcl := costT_len c
  have hus := upT_succ c
  have hcs := costT_succ c
  unfold canV tameC
  generalize hNN : tn c = N at *
  (refine VCall.mk (fn := a15) rfl rfl rfl ?_; simp only [a15, inV, mkB, nmsL, PT.set])
  (repeat (first | refine VC.seq ?_ | refine VC.block ?_ | refine VC.kill ?_ | refine VC.skip ?_ | refine VC.exit ?_ | refine VC.regA ?_ | refine VC.condT ?_ | refine VC.condF ?_))
  simp only [hnc]
  refine VC.ghost (G.adoptBA (p := p5) 0 1 p56 G.refl) ?_
  (simp only [List.nil_append, List.append_nil, VSt.kill, VSt.osob, VSt.adoptB, VSt.adopt, VSt.alloc, PT.filt, norefB, deadB, deadV, PT.map, Option.map_some, Option.map_none, List.map_cons, List.map_nil, noref, nos, nm, nmL, nmB, nmE, Pa.eqb, PT.set, mkB, inV, cond_true, cond_false, Bool.and_true, Bool.not_false, Bool.not_true, List.set_cons_zero, List.set_cons_succ])
  refine VC.ghost (G.adoptBA (p := p5) 1 1 p61 G.refl) ?_
  (simp only [List.nil_append, List.append_nil, VSt.kill, VSt.osob, VSt.adoptB, VSt.adopt, VSt.alloc, PT.filt, norefB, deadB, deadV, PT.map, Option.map_some, Option.map_none, List.map_cons, List.map_nil, noref, nos, nm, nmL, nmB, nmE, Pa.eqb, PT.set, mkB, inV, cond_true, cond_false, Bool.and_true, Bool.not_false, Bool.not_true, List.set_cons_zero, List.set_cons_succ])
  refine VC.ghost (G.adoptBA (p := p5) 2 1 p89 G.refl) ?_
  (simp only [List.nil_append, List.append_nil, VSt.kill, VSt.osob, VSt.adoptB, VSt.adopt, VSt.alloc, PT.filt, norefB, deadB, deadV, PT.map, Option.map_some, Option.map_none, List.map_cons, List.map_nil, noref, nos, nm, nmL, nmB, nmE, Pa.eqb, PT.set, mkB, inV, cond_true, cond_false, Bool.and_true, Bool.not_false, Bool.not_true, List.set_cons_zero, List.set_cons_succ])
  refine VC.loopG (fun (i : Nat) => ⟨inV [p1, p2, p4, p5, p6, p7] [vi m, .op 0 p2 0, .op 0 p4 0, .op 0 p5 0, vi N, vi i] .lf, mkB [(p2, .cells [sl1 c.up, sl1 c.cost, sl1 c.ships]), (p4, .cells [nilV, nilV, nilV]), (p5, .cells [.os 1 p56 i, .os 1 p61 i, .os 1 p89 0]), (p56, .cells ((upT c i).map vi)), (p61, .cells ((costT c i).map vi)), (p89, .cells [])] .lf, [], none⟩) (fun n i => n = N - i ∧ i ≤ N) (x := 0) ?_ ⟨rfl, Nat.zero_le _⟩ ?_
  · have e1 : upT c 0 = [] := rfl
    have e2 : costT c 0 = [] := rfl
    (apply Go.Ab.V.G.weak; constructor <;> simp (config := {decide := true}) only [PT.Le, inV, mkB, PT.set, VSt.kill, VSt.adopt, VSt.alloc, PT.filt, PT.map, List.map_cons, List.map_nil, noref, norefB, deadB, deadV, nos, nm, nmL, nmB, nmE, Pa.eqb, cond_true, cond_false, Bool.not_true, Bool.not_false, Bool.and_true, Bool.true_and, nmL_vi, flV_len, flP_len, flV_nm, flV_ok, flV_pv, flP_map, drop_flP, drop_flV, putC_flV, eqV2, eqV3, bneT, bneF, decide_true, decide_false, frzL_vi, frzL_flV, nmE_ag, nmE_at, frzE_ag, frzE_at, ofAg_len, ofAt_len, atL_vi, nmL_map_p, frzL_map_p, okL_p, toPVs_p, repsZ, nmL_reps, putC_vi, get_flV0, get_flV1, Int.toNat_zero, Int.toNat_one, Int.reduceToNat, eqV_slice, eqV_ptr, eqV_func, nilS, nilP, nilF, nmL_append, true_or, or_true, and_self, true_and, and_true, Option.some.injEq, reduceCtorEq, false_or, or_false, VV.p.injEq, PV.at.injEq, Value.int.injEq, sl1, vi, bl1, vb, nilV, sl1, e1, e2])
    (all_goals first | rfl | omega | exact ⟨rfl, by omega⟩)
  rintro n i ⟨hn', hi⟩
  simp only [inV, PT.set, mkB]
  have hui := hus i
  have hci := hcs i
  have hul1 := hul i
  have hcl1 := hcl i
  have hfin : i = N → upT c i = upT c N ∧ costT c i = costT c N := fun e => by rw [e]; exact ⟨rfl, rfl⟩
  generalize hU : upT c i = U at *
  generalize hC : costT c i = T at *
  (repeat (first | refine VC.seq ?_ | refine VC.block ?_ | refine VC.kill ?_ | refine VC.skip ?_ | refine VC.exit ?_ | refine VC.regA ?_ | refine VC.condT ?_ | refine VC.condF ?_))
  refine VC.condA ?_ ?_ <;> intro h' <;> (simp only [decide_eq_true_eq, decide_eq_false_iff_not, bne_iff_ne, ne_eq, bne_eq_false_iff_eq, beq_iff_eq, beq_eq_false_iff_ne, Bool.not_eq_true', Bool.not_eq_false', Bool.and_eq_true, Bool.or_eq_true, Int.natCast_inj] at h')
  · have h' : i < N := by omega
    have key : ∀ (u k : Int), u = (if i = 0 then -1 else c.up.getD i 0 % 18446744073709551616 % i) → k = (if i < c.cost.length then c.cost.getD i 0 % 18446744073709551616 % 1001 else 1) → upT c (i + 1) = U ++ [u] ∧ costT c (i + 1) = T ++ [k] := fun u k e1 e2 => by rw [hui, hci, e1, e2]; exact ⟨rfl, rfl⟩
    by_cases hi0 : i = 0
    · subst hi0
      by_cases hcc : 0 < c.cost.length
      · have hgd : c.cost.getD 0 0 = c.cost[0] := by rw [List.getD_eq_getElem?_getD, List.getElem?_eq_getElem hcc]; rfl
        obtain ⟨k1, k2⟩ := key (-1) (c.cost[0] % 18446744073709551616 % 1001) (by simp) (by rw [if_pos hcc, hgd])
        (repeat (first | refine VC.seq ?_ | refine VC.block ?_ | refine VC.kill ?_ | refine VC.skip ?_ | refine VC.exit ?_ | refine VC.regA ?_ | refine VC.condT ?_ | refine VC.condF ?_))
        refine ⟨_, 1, ?_, ⟨rfl, by omega⟩, ?_⟩
        · omega
        · (apply Go.Ab.V.G.weak; constructor <;> simp (config := {decide := true}) only [PT.Le, inV, mkB, PT.set, VSt.kill, VSt.adopt, VSt.alloc, PT.filt, PT.map, List.map_cons, List.map_nil, noref, norefB, deadB, deadV, nos, nm, nmL, nmB, nmE, Pa.eqb, cond_true, cond_false, Bool.not_true, Bool.not_false, Bool.and_true, Bool.true_and, nmL_vi, flV_len, flP_len, flV_nm, flV_ok, flV_pv, flP_map, drop_flP, drop_flV, putC_flV, eqV2, eqV3, bneT, bneF, decide_true, decide_false, frzL_vi, frzL_flV, nmE_ag, nmE_at, frzE_ag, frzE_at, ofAg_len, ofAt_len, atL_vi, nmL_map_p, frzL_map_p, okL_p, toPVs_p, repsZ, nmL_reps, putC_vi, get_flV0, get_flV1, Int.toNat_zero, Int.toNat_one, Int.reduceToNat, eqV_slice, eqV_ptr, eqV_func, nilS, nilP, nilF, nmL_append, true_or, or_true, and_self, true_and, and_true, Option.some.injEq, reduceCtorEq, false_or, or_false, VV.p.injEq, PV.at.injEq, Value.int.injEq, sl1, vi, bl1, vb, nilV, sl1, k1, k2, List.map_append])
          (all_goals first | rfl | omega | exact ⟨rfl, by omega⟩)
      · obtain ⟨k1, k2⟩ := key (-1) 1 (by simp) (by rw [if_neg hcc])
        (repeat (first | refine VC.seq ?_ | refine VC.block ?_ | refine VC.kill ?_ | refine VC.skip ?_ | refine VC.exit ?_ | refine VC.regA ?_ | refine VC.condT ?_ | refine VC.condF ?_))
        refine ⟨_, 1, ?_, ⟨rfl, by omega⟩, ?_⟩
        · omega
        · (apply Go.Ab.V.G.weak; constructor <;> simp (config := {decide := true}) only [PT.Le, inV, mkB, PT.set, VSt.kill, VSt.adopt, VSt.alloc, PT.filt, PT.map, List.map_cons, List.map_nil, noref, norefB, deadB, deadV, nos, nm, nmL, nmB, nmE, Pa.eqb, cond_true, cond_false, Bool.not_true, Bool.not_false, Bool.and_true, Bool.true_and, nmL_vi, flV_len, flP_len, flV_nm, flV_ok, flV_pv, flP_map, drop_flP, drop_flV, putC_flV, eqV2, eqV3, bneT, bneF, decide_true, decide_false, frzL_vi, frzL_flV, nmE_ag, nmE_at, frzE_ag, frzE_at, ofAg_len, ofAt_len, atL_vi, nmL_map_p, frzL_map_p, okL_p, toPVs_p, repsZ, nmL_reps, putC_vi, get_flV0, get_flV1, Int.toNat_zero, Int.toNat_one, Int.reduceToNat, eqV_slice, eqV_ptr, eqV_func, nilS, nilP, nilF, nmL_append, true_or, or_true, and_self, true_and, and_true, Option.some.injEq, reduceCtorEq, false_or, or_false, VV.p.injEq, PV.at.injEq, Value.int.injEq, sl1, vi, bl1, vb, nilV, sl1, k1, k2, List.map_append])
          (all_goals first | rfl | omega | exact ⟨rfl, by omega⟩)
    · have hup := hnup i h' (by omega)
      have hgu : c.up.getD i 0 = c.up[i] := by rw [List.getD_eq_getElem?_getD, List.getElem?_eq_getElem hup]; rfl
      have hb0 : 0 ≤ c.up[i] % 18446744073709551616 % (i : Int) := Int.emod_nonneg _ (by omega)
      have hb1 : c.up[i] % 18446744073709551616 % (i : Int) < i := Int.emod_lt_of_pos _ (by omega)
      have hi64 : (i : Int) % 18446744073709551616 = i := by omega
      have hb2 : 0 ≤ c.up[i] % 18446744073709551616 % ((i : Int) % 18446744073709551616) ∧ c.up[i] % 18446744073709551616 % ((i : Int) % 18446744073709551616) < i := by rw [hi64]; exact ⟨hb0, hb1⟩
      by_cases hcc : i < c.cost.length
      · have hgd : c.cost.getD i 0 = c.cost[i] := by rw [List.getD_eq_getElem?_getD, List.getElem?_eq_getElem hcc]; rfl
        obtain ⟨k1, k2⟩ := key (c.up[i] % 18446744073709551616 % i) (c.cost[i] % 18446744073709551616 % 1001) (by rw [if_neg hi0, hgu]) (by rw [if_pos hcc, hgd])
        (repeat (first | refine VC.seq ?_ | refine VC.block ?_ | refine VC.kill ?_ | refine VC.skip ?_ | refine VC.exit ?_ | refine VC.regA ?_ | refine VC.condT ?_ | refine VC.condF ?_))
        simp only [hi64]
        refine ⟨_, i + 1, ?_, ⟨rfl, by omega⟩, ?_⟩
        · omega
        · (apply Go.Ab.V.G.weak; constructor <;> simp (config := {decide := true}) only [PT.Le, inV, mkB, PT.set, VSt.kill, VSt.adopt, VSt.alloc, PT.filt, PT.map, List.map_cons, List.map_nil, noref, norefB, deadB, deadV, nos, nm, nmL, nmB, nmE, Pa.eqb, cond_true, cond_false, Bool.not_true, Bool.not_false, Bool.and_true, Bool.true_and, nmL_vi, flV_len, flP_len, flV_nm, flV_ok, flV_pv, flP_map, drop_flP, drop_flV, putC_flV, eqV2, eqV3, bneT, bneF, decide_true, decide_false, frzL_vi, frzL_flV, nmE_ag, nmE_at, frzE_ag, frzE_at, ofAg_len, ofAt_len, atL_vi, nmL_map_p, frzL_map_p, okL_p, toPVs_p, repsZ, nmL_reps, putC_vi, get_flV0, get_flV1, Int.toNat_zero, Int.toNat_one, Int.reduceToNat, eqV_slice, eqV_ptr, eqV_func, nilS, nilP, nilF, nmL_append, true_or, or_true, and_self, true_and, and_true, Option.some.injEq, reduceCtorEq, false_or, or_false, VV.p.injEq, PV.at.injEq, Value.int.injEq, sl1, vi, bl1, vb, nilV, sl1, k1, k2, List.map_append])
          (all_goals first | rfl | omega | exact ⟨rfl, by omega⟩)
      · obtain ⟨k1, k2⟩ := key (c.up[i] % 18446744073709551616 % i) 1 (by rw [if_neg hi0, hgu]) (by rw [if_neg hcc])
        (repeat (first | refine VC.seq ?_ | refine VC.block ?_ | refine VC.kill ?_ | refine VC.skip ?_ | refine VC.exit ?_ | refine VC.regA ?_ | refine VC.condT ?_ | refine VC.condF ?_))
        simp only [hi64]
        refine ⟨_, i + 1, ?_, ⟨rfl, by omega⟩, ?_⟩
        · omega
        · (apply Go.Ab.V.G.weak; constructor <;> simp (config := {decide := true}) only [PT.Le, inV, mkB, PT.set, VSt.kill, VSt.adopt, VSt.alloc, PT.filt, PT.map, List.map_cons, List.map_nil, noref, norefB, deadB, deadV, nos, nm, nmL, nmB, nmE, Pa.eqb, cond_true, cond_false, Bool.not_true, Bool.not_false, Bool.and_true, Bool.true_and, nmL_vi, flV_len, flP_len, flV_nm, flV_ok, flV_pv, flP_map, drop_flP, drop_flV, putC_flV, eqV2, eqV3, bneT, bneF, decide_true, decide_false, frzL_vi, frzL_flV, nmE_ag, nmE_at, frzE_ag, frzE_at, ofAg_len, ofAt_len, atL_vi, nmL_map_p, frzL_map_p, okL_p, toPVs_p, repsZ, nmL_reps, putC_vi, get_flV0, get_flV1, Int.toNat_zero, Int.toNat_one, Int.reduceToNat, eqV_slice, eqV_ptr, eqV_func, nilS, nilP, nilF, nmL_append, true_or, or_true, and_self, true_and, and_true, Option.some.injEq, reduceCtorEq, false_or, or_false, VV.p.injEq, PV.at.injEq, Value.int.injEq, sl1, vi, bl1, vb, nilV, sl1, k1, k2, List.map_append])
          (all_goals first | rfl | omega | exact ⟨rfl, by omega⟩)
  · obtain ⟨f1, f2⟩ := hfin (by omega)
    have hiN : i = N := by omega
    subst hiN
    rw [← f1, ← f2]
    have hsl := fun k => shipT_len c k
    clear hui hci hus hcs hfin f1 f2
    (repeat (first | refine VC.seq ?_ | refine VC.block ?_ | refine VC.kill ?_ | refine VC.skip ?_ | refine VC.exit ?_ | refine VC.regA ?_ | refine VC.condT ?_ | refine VC.condF ?_))
    refine VC.loopG (fun (k : Nat) => ⟨inV [p1, p2, p4, p5, p6, p12] [vi m, .op 0 p2 0, .op 0 p4 0, .op 0 p5 0, vi i, vi k] .lf, mkB [(p2, .cells [sl1 c.up, sl1 c.cost, sl1 c.ships]), (p4, .cells [nilV, nilV, nilV]), (p5, .cells [.os 1 p56 i, .os 1 p61 i, .os 1 p89 k]), (p56, .cells (U.map vi)), (p61, .cells (T.map vi)), (p89, .cells ((shipT c k).map vi))] .lf, [], none⟩) (fun n k => n = c.ships.length - k ∧ k ≤ c.ships.length ∧ k ≤ m) (x := 0) ?_ ⟨rfl, Nat.zero_le _, Nat.zero_le _⟩ ?_
    · have e1 : shipT c 0 = [] := rfl
      (apply Go.Ab.V.G.weak; constructor <;> simp (config := {decide := true}) only [PT.Le, inV, mkB, PT.set, VSt.kill, VSt.adopt, VSt.alloc, PT.filt, PT.map, List.map_cons, List.map_nil, noref, norefB, deadB, deadV, nos, nm, nmL, nmB, nmE, Pa.eqb, cond_true, cond_false, Bool.not_true, Bool.not_false, Bool.and_true, Bool.true_and, nmL_vi, flV_len, flP_len, flV_nm, flV_ok, flV_pv, flP_map, drop_flP, drop_flV, putC_flV, eqV2, eqV3, bneT, bneF, decide_true, decide_false, frzL_vi, frzL_flV, nmE_ag, nmE_at, frzE_ag, frzE_at, ofAg_len, ofAt_len, atL_vi, nmL_map_p, frzL_map_p, okL_p, toPVs_p, repsZ, nmL_reps, putC_vi, get_flV0, get_flV1, Int.toNat_zero, Int.toNat_one, Int.reduceToNat, eqV_slice, eqV_ptr, eqV_func, nilS, nilP, nilF, nmL_append, true_or, or_true, and_self, true_and, and_true, Option.some.injEq, reduceCtorEq, false_or, or_false, VV.p.injEq, PV.at.injEq, Value.int.injEq, sl1, vi, bl1, vb, nilV, sl1, e1])
      (all_goals first | rfl | omega | exact ⟨rfl, by omega⟩)
    rintro n2 k ⟨hn2, hk, hkm⟩
    simp only [inV, PT.set, mkB]
    have hlk := hsl k
    rw [Nat.min_eq_left hk] at hlk
    have hss := shipT_succ c k
    have hfin2 : (k = m ∨ k = c.ships.length) → shipT c m = shipT c k := fun e => by
      unfold shipT
      rcases e with rfl | rfl
      · rfl
      · rw [List.take_of_length_le (by omega), List.take_of_length_le (by omega)]
    rw [hNN] at hss
    have hi64 : (i : Int) % 18446744073709551616 = i := by omega
    generalize hP : shipT c k = P at *
    by_cases hk1 : k < c.ships.length
    · by_cases hk2 : k < m
      · have hss := hss hk1
        have hb0 : 0 ≤ c.ships[k] % 18446744073709551616 % (i : Int) := Int.emod_nonneg _ (by omega)
        have hb1 : c.ships[k] % 18446744073709551616 % (i : Int) < i := Int.emod_lt_of_pos _ (by omega)
        have hb2 : 0 ≤ c.ships[k] % 18446744073709551616 % ((i : Int) % 18446744073709551616) ∧ c.ships[k] % 18446744073709551616 % ((i : Int) % 18446744073709551616) < i := by rw [hi64]; exact ⟨hb0, hb1⟩
        clear hfin2
        (repeat (first | refine VC.seq ?_ | refine VC.block ?_ | refine VC.kill ?_ | refine VC.skip ?_ | refine VC.exit ?_ | refine VC.regA ?_ | refine VC.condT ?_ | refine VC.condF ?_))
        simp only [hi64]
        refine ⟨_, k + 1, ?_, ⟨rfl, by omega, by omega⟩, ?_⟩
        · omega
        · (apply Go.Ab.V.G.weak; constructor <;> simp (config := {decide := true}) only [PT.Le, inV, mkB, PT.set, VSt.kill, VSt.adopt, VSt.alloc, PT.filt, PT.map, List.map_cons, List.map_nil, noref, norefB, deadB, deadV, nos, nm, nmL, nmB, nmE, Pa.eqb, cond_true, cond_false, Bool.not_true, Bool.not_false, Bool.and_true, Bool.true_and, nmL_vi, flV_len, flP_len, flV_nm, flV_ok, flV_pv, flP_map, drop_flP, drop_flV, putC_flV, eqV2, eqV3, bneT, bneF, decide_true, decide_false, frzL_vi, frzL_flV, nmE_ag, nmE_at, frzE_ag, frzE_at, ofAg_len, ofAt_len, atL_vi, nmL_map_p, frzL_map_p, okL_p, toPVs_p, repsZ, nmL_reps, putC_vi, get_flV0, get_flV1, Int.toNat_zero, Int.toNat_one, Int.reduceToNat, eqV_slice, eqV_ptr, eqV_func, nilS, nilP, nilF, nmL_append, true_or, or_true, and_self, true_and, and_true, Option.some.injEq, reduceCtorEq, false_or, or_false, VV.p.injEq, PV.at.injEq, Value.int.injEq, sl1, vi, bl1, vb, nilV, sl1, hss, List.map_append])
          (all_goals first | rfl | omega | exact ⟨rfl, by omega⟩)
      · have hf := hfin2 (.inl (by omega))
        rw [hf]
        clear hfin2 hss
        (repeat (first | refine VC.seq ?_ | refine VC.block ?_ | refine VC.kill ?_ | refine VC.skip ?_ | refine VC.exit ?_ | refine VC.regA ?_ | refine VC.condT ?_ | refine VC.condF ?_))
        refine VC.ret (Fin.frzA (cs := P.map pi) p89 (hb := rfl) (hc := toPVs_vi _) (Fin.frzA (cs := T.map pi) p61 (hb := rfl) (hc := by rw [frzL_vi]; exact toPVs_vi T) (Fin.frzA (cs := U.map pi) p56 (hb := rfl) (hc := by rw [frzL_vi, frzL_vi]; exact toPVs_vi U) (Fin.A ?_))))
        simp only [sl1, hul1, hcl1, hlk]; rfl
    · have hf := hfin2 (.inr (by omega))
      rw [hf]
      clear hfin2 hss
      (repeat (first | refine VC.seq ?_ | refine VC.block ?_ | refine VC.kill ?_ | refine VC.skip ?_ | refine VC.exit ?_ | refine VC.regA ?_ | refine VC.condT ?_ | refine VC.condF ?_))
      refine VC.ret (Fin.frzA (cs := P.map pi) p89 (hb := rfl) (hc := toPVs_vi _) (Fin.frzA (cs := T.map pi) p61 (hb := rfl) (hc := by rw [frzL_vi]; exact toPVs_vi T) (Fin.frzA (cs := U.map pi) p56 (hb := rfl) (hc := by rw [frzL_vi, frzL_vi]; exact toPVs_vi U) (Fin.A ?_))))
      simp only [sl1, hul1, hcl1, hlk]; rfl
end Go.Ab.Dues

namespace Go.Ab.Dues
open Go.Ab.V
set_option maxRecDepth 100000
end Go.Ab.Dues

namespace Go.Ab.Dues
open Go.Ab.V
set_option maxRecDepth 100000
theorem sum_sq (f : Nat → Int) (q : Nat → Bool) : ∀ n, sumL (((List.range n).filter q).map f) = sq f q n
  | 0 => rfl
  | n + 1 => by
    have ih := sum_sq f q n
    rw [List.range_succ, List.filter_append, List.map_append]
    simp only [sq]
    cases hq : q n
    · rw [show List.filter q [n] = [] from by simp [hq], List.map_nil, List.append_nil, ih, cond_false]; omega
    · rw [show List.filter q [n] = [n] from by simp [hq], List.map_cons, List.map_nil, sumL_snoc, ih, cond_true]
def nbC (c : Can) (s i : Nat) : Bool := ((needK c c.ships.length).getD s 0).testBit i
def ftC (c : Can) (p : Nat) : Int := c.cost.getD p 0
def ownQ (c : Can) (s : Nat) : Int := sq (ftC c) (nbC c s) 10
theorem pieces_un (c : Can) (S i : Nat) : (pieces (needK c c.ships.length) S).testBit i = unB (nbC c) (fun s => S.testBit s) 10 i := by
  rw [Bool.eq_iff_iff, pieces_bit]
  unfold unB
  rw [List.any_eq_true]
  constructor
  · rintro ⟨s, hs, e⟩
    obtain ⟨h1, h2⟩ := bitsN_mem.1 hs
    exact ⟨s, List.mem_range.2 h1, by rw [Bool.and_eq_true]; exact ⟨h2, e⟩⟩
  · rintro ⟨s, hs, e⟩
    rw [Bool.and_eq_true] at e
    exact ⟨s, bitsN_mem.2 ⟨List.mem_range.1 hs, e.1⟩, e.2⟩
theorem costS_sq (c : Can) (S : Nat) : costS c S = sq (ftC c) (unB (nbC c) (fun s => S.testBit s) 10) 10 := by
  unfold costS costP bitsN
  rw [sum_sq (fun p => c.cost.getD p 0)]
  exact sq_congr (fun i => pieces_un c S i) 10
theorem costS_own (c : Can) {s : Nat} (hs : s < 10) : costS c (2 ^ s) = ownQ c s := by
  rw [costS_sq]
  refine sq_congr (fun i => ?_) 10
  unfold unB
  rw [Bool.eq_iff_iff, List.any_eq_true]
  constructor
  · rintro ⟨t, ht, e⟩
    rw [Bool.and_eq_true] at e
    have e1 : (2 ^ s).testBit t = true := e.1
    rw [Nat.testBit_two_pow, decide_eq_true_eq] at e1
    rw [e1]; exact e.2
  · intro e
    exact ⟨s, List.mem_range.2 hs, by rw [Bool.and_eq_true]; exact ⟨by show (2 ^ s).testBit s = true; rw [Nat.testBit_two_pow]; simp, e⟩⟩
theorem gainS_sq (c : Can) (S : Nat) : gainS c S = sq (ownQ c) (fun s => S.testBit s) 10 - sq (ftC c) (unB (nbC c) (fun s => S.testBit s) 10) 10 := by
  unfold gainS
  rw [costS_sq]
  congr 1
  unfold ownC
  rw [show (bitsN S).map (fun s => costS c (2 ^ s)) = (bitsN S).map (ownQ c) from List.map_congr_left fun s hs => costS_own c (bitsN_mem.1 hs).1]
  exact sum_sq (ownQ c) (fun s => S.testBit s) 10
theorem ft_pos {c : Can} (h : okC c) (i : Nat) : 0 ≤ ftC c i := (cost_getD h i).1
theorem unions {c : Can} (h : okC c) (x y : Nat) :
    costS c (x ||| y) + costS c (x &&& y) ≤ costS c x + costS c y ∧ costS c x ≤ costS c (x ||| y) ∧ costS c (x &&& y) ≤ costS c y ∧
    0 ≤ gainS c (x &&& y) ∧ gainS c (x &&& y) ≤ gainS c x ∧ gainS c x ≤ gainS c (x ||| y) := by
  have eo : (fun s => (x ||| y).testBit s) = fun s => x.testBit s || y.testBit s := funext fun s => Nat.testBit_or ..
  have ea : (fun s => (x &&& y).testBit s) = fun s => x.testBit s && y.testBit s := funext fun s => Nat.testBit_and ..
  have hf := ft_pos h
  have ho : ∀ s, ownQ c s = sq (ftC c) (nbC c s) 10 := fun s => rfl
  simp only [costS_sq, gainS_sq, eo, ea]
  have h1 := cost_sub hf (nbC c) (fun s => x.testBit s) (fun s => y.testBit s) 10 10
  have h2 := cost_mono hf (nbC c) (q := fun s => x.testBit s) (q' := fun s => x.testBit s || y.testBit s) (fun i hi => by rw [hi]; rfl) 10 10
  have h3 := cost_mono hf (nbC c) (q := fun s => x.testBit s && y.testBit s) (q' := fun s => y.testBit s) (fun i hi => (Bool.and_eq_true _ _ ▸ hi).2) 10 10
  have h4 := cost_own hf (nbC c) (ownQ c) 10 ho (fun s => x.testBit s && y.testBit s) 10
  have h5 := gain_mono hf (nbC c) (ownQ c) 10 ho (q := fun s => x.testBit s && y.testBit s) (q' := fun s => x.testBit s) (fun i hi => (Bool.and_eq_true _ _ ▸ hi).1) 10
  have h6 := gain_mono hf (nbC c) (ownQ c) 10 ho (q := fun s => x.testBit s) (q' := fun s => x.testBit s || y.testBit s) (fun i hi => by rw [hi]; rfl) 10
  exact ⟨h1, h2, h3, by omega, h5, h6⟩
end Go.Ab.Dues

namespace Go.Ab.Dues
open Go.Ab.V
set_option maxRecDepth 100000
/-! ### Orders -/
def natI (l : List Nat) : List Int := l.map fun n : Nat => (n : Int)
theorem natI_len (l : List Nat) : (natI l).length = l.length := by simp [natI]
theorem natI_get (l : List Nat) (i : Nat) (h : i < (natI l).length) : (natI l)[i] = ((l[i]'(by simpa [natI] using h) : Nat) : Int) := by simp [natI]
theorem natI_drop (l : List Nat) (i : Nat) : (natI l).drop i = natI (l.drop i) := by simp [natI]
/-! ### Shares by an order -/
def boStep (c : Can) (q : List Int × Nat × List (Nat × Int)) (s : Nat) : List Int × Nat × List (Nat × Int) :=
  (q.1.set s (costS c (q.2.1 ||| 2 ^ s) - costS c q.2.1), q.2.1 ||| 2 ^ s, memo c (memo c q.2.2 (q.2.1 ||| 2 ^ s)) q.2.1)
def boF (c : Can) (M : List (Nat × Int)) (l : List Nat) : List Int × Nat × List (Nat × Int) := l.foldl (boStep c) (List.replicate l.length 0, 0, M)
/-- The part that does not ask the memory. -/
def byStep (c : Can) (q : List Int × Nat) (s : Nat) : List Int × Nat := (q.1.set s (costS c (q.2 ||| 2 ^ s) - costS c q.2), q.2 ||| 2 ^ s)
def byO (c : Can) (l : List Nat) : List Int := (l.foldl (byStep c) (List.replicate l.length 0, 0)).1
theorem boF_by (c : Can) : ∀ (l : List Nat) (q : List Int × Nat × List (Nat × Int)), ((l.foldl (boStep c) q).1, (l.foldl (boStep c) q).2.1) = l.foldl (byStep c) (q.1, q.2.1)
  | [], q => rfl
  | s :: l, q => by rw [List.foldl_cons, List.foldl_cons]; exact boF_by c l _
theorem boF_out (c : Can) (M : List (Nat × Int)) (l : List Nat) : (boF c M l).1 = byO c l := by
  have := boF_by c l (List.replicate l.length 0, 0, M)
  exact congrArg Prod.fst this
theorem boF_inv {c : Can} {m : Nat} : ∀ (l : List Nat) (q : List Int × Nat × List (Nat × Int)), (∀ s ∈ l, s < m) → q.2.1 < 2 ^ m → okM c q.2.2 →
    (l.foldl (boStep c) q).1.length = q.1.length ∧ (l.foldl (boStep c) q).2.1 < 2 ^ m ∧ okM c (l.foldl (boStep c) q).2.2
  | [], q, _, h1, h2 => ⟨rfl, h1, h2⟩
  | s :: l, q, hl, h1, h2 => by
    rw [List.foldl_cons]
    have := boF_inv l (boStep c q s) (fun x hx => hl x (List.mem_cons_of_mem _ hx)) (Nat.or_lt_two_pow h1 (Nat.pow_lt_pow_right (by decide) (hl s (List.mem_cons_self ..)))) (okM_memo (okM_memo h2 _) _)
    refine ⟨this.1.trans ?_, this.2⟩
    simp [boStep]
theorem boF_okM {c : Can} {m : Nat} {l : List Nat} {M : List (Nat × Int)} (hl : ∀ s ∈ l, s < m) (h : okM c M) : okM c (boF c M l).2.2 :=
  (boF_inv l (List.replicate l.length 0, 0, M) hl (Nat.pow_pos (by decide)) h).2.2
end Go.Ab.Dues

namespace Go.Ab.Dues
open Go.Ab.V
set_option maxRecDepth 100000
theorem sq_or (f : Nat → Int) (p q : Nat → Bool) : ∀ n, sq f (fun i => p i || q i) n = sq f p n + sq f (fun i => q i && !p i) n
  | 0 => rfl
  | n + 1 => by
    have ih := sq_or f p q n
    simp only [sq]
    rw [ih]
    cases p n <;> cases q n <;> simp <;> omega
theorem costP_sq (c : Can) (P : Nat) : costP c.cost P = sq (ftC c) (fun p => P.testBit p) 10 := by
  unfold costP bitsN
  exact sum_sq (fun p => c.cost.getD p 0) (fun p => P.testBit p) 10
theorem costP_or (c : Can) (P N : Nat) : costP c.cost (P ||| N) = costP c.cost P + costP c.cost (andN N P) := by
  rw [costP_sq, costP_sq, costP_sq]
  have h1 : (fun p => (P ||| N).testBit p) = fun p => P.testBit p || N.testBit p := funext fun p => Nat.testBit_or ..
  have h2 : (fun p => (andN N P).testBit p) = fun p => N.testBit p && !P.testBit p := funext fun p => andN_bit ..
  rw [h1, h2]
  exact sq_or _ _ _ _
theorem pieces_snoc (nd : List Nat) (b s : Nat) (hs : s < 10) : pieces nd (b ||| 2 ^ s) = pieces nd b ||| nd.getD s 0 := by
  apply Nat.eq_of_testBit_eq
  intro i
  rw [Bool.eq_iff_iff, Nat.testBit_or, Bool.or_eq_true, pieces_bit, pieces_bit]
  constructor
  · rintro ⟨t, ht, hb⟩
    obtain ⟨h1, h2⟩ := bitsN_mem.1 ht
    rw [Nat.testBit_or, Bool.or_eq_true, Nat.testBit_two_pow, decide_eq_true_eq] at h2
    rcases h2 with h2 | h2
    · exact .inl ⟨t, bitsN_mem.2 ⟨h1, h2⟩, hb⟩
    · subst h2; exact .inr hb
  · rintro (⟨t, ht, hb⟩ | hb)
    · obtain ⟨h1, h2⟩ := bitsN_mem.1 ht
      exact ⟨t, bitsN_mem.2 ⟨h1, by rw [Nat.testBit_or, h2]; rfl⟩, hb⟩
    · exact ⟨s, bitsN_mem.2 ⟨hs, by rw [Nat.testBit_or, Nat.testBit_two_pow]; simp⟩, hb⟩
theorem costS_snoc (c : Can) (b s : Nat) (hs : s < 10) : costS c (b ||| 2 ^ s) - costS c b = costP c.cost (andN ((needK c c.ships.length).getD s 0) (pieces (needK c c.ships.length) b)) := by
  unfold costS
  rw [pieces_snoc _ _ _ hs, costP_or]
  omega
def rbStep (c : Can) (q : List Int × Nat) (s : Nat) : List Int × Nat := (q.1.set s (costP c.cost (andN ((needK c c.ships.length).getD s 0) q.2)), q.2 ||| (needK c c.ships.length).getD s 0)
def rbO (c : Can) (l : List Nat) : List Int := (l.foldl (rbStep c) (List.replicate l.length 0, 0)).1
theorem rb_by (c : Can) : ∀ (l : List Nat) (out : List Int) (b : Nat), (∀ s ∈ l, s < 10) → l.foldl (rbStep c) (out, pieces (needK c c.ships.length) b) = ((l.foldl (byStep c) (out, b)).1, pieces (needK c c.ships.length) (l.foldl (byStep c) (out, b)).2)
  | [], _, _, _ => rfl
  | s :: l, out, b, h => by
    have hs := h s (List.mem_cons_self ..)
    rw [List.foldl_cons, List.foldl_cons]
    have e1 : rbStep c (out, pieces (needK c c.ships.length) b) s = (out.set s (costS c (b ||| 2 ^ s) - costS c b), pieces (needK c c.ships.length) (b ||| 2 ^ s)) := by
      unfold rbStep
      rw [costS_snoc c b s hs, pieces_snoc _ _ _ hs]
    rw [e1]
    exact rb_by c l _ _ fun x hx => h x (List.mem_cons_of_mem _ hx)
theorem pieces_zero (nd : List Nat) : pieces nd 0 = 0 := by
  have : bitsN 0 = [] := by decide
  simp [pieces, this]
theorem rbO_eq (c : Can) (l : List Nat) (h : ∀ s ∈ l, s < 10) : rbO c l = byO c l := by
  have := rb_by c l (List.replicate l.length 0) 0 h
  rw [pieces_zero] at this
  unfold rbO byO
  rw [this]
end Go.Ab.Dues

namespace Go.Ab.Dues
open Go.Ab.V
set_option maxRecDepth 100000
set_option maxHeartbeats 1000000 in
theorem Same_ok (a b : List (Int × Int)) (ha : a.length ≤ 1000) : VCall cfg 20 [slP a, slP b] [] [] (vb (decide (a = b))) [] := by
  unfold slP
  (refine VCall.mk (fn := a20) rfl rfl rfl ?_; simp only [a20, inV, mkB, nmsL, PT.set])
  (repeat (first | refine VC.seq ?_ | refine VC.block ?_ | refine VC.kill ?_ | refine VC.skip ?_ | refine VC.exit ?_ | refine VC.regA ?_ | refine VC.condT ?_ | refine VC.condF ?_))
  refine VC.condA ?_ ?_ <;> intro h <;> (simp only [decide_eq_true_eq, decide_eq_false_iff_not, bne_iff_ne, ne_eq, bne_eq_false_iff_eq, beq_iff_eq, beq_eq_false_iff_ne, Bool.not_eq_true', Bool.not_eq_false', Bool.and_eq_true, Bool.or_eq_true, Int.natCast_inj] at h)
  · (repeat (first | refine VC.seq ?_ | refine VC.block ?_ | refine VC.kill ?_ | refine VC.skip ?_ | refine VC.exit ?_ | refine VC.regA ?_ | refine VC.condT ?_ | refine VC.condF ?_))
    refine VC.ret (Fin.A ?_)
    rw [decide_eq_false (by intro e; rw [e] at h; exact h rfl)]; rfl
  · (repeat (first | refine VC.seq ?_ | refine VC.block ?_ | refine VC.kill ?_ | refine VC.skip ?_ | refine VC.exit ?_ | refine VC.regA ?_ | refine VC.condT ?_ | refine VC.condF ?_))
    have hl : a.length = b.length := by omega
    refine VC.loopG (fun (i : Nat) => ⟨inV [p0, p1, p5] [slP a, slP b, vi i] .lf, .lf, [], none⟩) (fun n i => n = a.length - i ∧ i ≤ a.length ∧ a.take i = b.take i) (x := 0) ?_ ⟨rfl, by omega, rfl⟩ ?_
    · (apply Go.Ab.V.G.weak; constructor <;> simp (config := {decide := true}) only [PT.Le, inV, mkB, PT.set, VSt.kill, VSt.adopt, VSt.alloc, PT.filt, PT.map, List.map_cons, List.map_nil, noref, norefB, deadB, deadV, nos, nm, nmL, nmB, nmE, Pa.eqb, cond_true, cond_false, Bool.not_true, Bool.not_false, Bool.and_true, Bool.true_and, nmL_vi, flV_len, flP_len, flV_nm, flV_ok, flV_pv, flP_map, drop_flP, drop_flV, putC_flV, eqV2, eqV3, bneT, bneF, decide_true, decide_false, frzL_vi, frzL_flV, nmE_ag, nmE_at, frzE_ag, frzE_at, ofAg_len, ofAt_len, atL_vi, nmL_map_p, frzL_map_p, okL_p, toPVs_p, repsZ, nmL_reps, putC_vi, get_flV0, get_flV1, Int.toNat_zero, Int.toNat_one, Int.reduceToNat, eqV_slice, eqV_ptr, eqV_func, nilS, nilP, nilF, nmL_append, true_or, or_true, and_self, true_and, and_true, Option.some.injEq, reduceCtorEq, false_or, or_false, VV.p.injEq, PV.at.injEq, Value.int.injEq, sl1, vi, bl1, vb, nilV, slP])
    rintro n i ⟨hn, hi, he⟩
    simp only [inV, PT.set, slP]
    (repeat (first | refine VC.seq ?_ | refine VC.block ?_ | refine VC.kill ?_ | refine VC.skip ?_ | refine VC.exit ?_ | refine VC.regA ?_ | refine VC.condT ?_ | refine VC.condF ?_))
    refine VC.condA ?_ ?_ <;> intro h <;> (simp only [decide_eq_true_eq, decide_eq_false_iff_not, bne_iff_ne, ne_eq, bne_eq_false_iff_eq, beq_iff_eq, beq_eq_false_iff_ne, Bool.not_eq_true', Bool.not_eq_false', Bool.and_eq_true, Bool.or_eq_true, Int.natCast_inj] at h)
    · have h : i < a.length := by omega
      (repeat (first | refine VC.seq ?_ | refine VC.block ?_ | refine VC.kill ?_ | refine VC.skip ?_ | refine VC.exit ?_ | refine VC.regA ?_ | refine VC.condT ?_ | refine VC.condF ?_))
      refine VC.condA ?_ ?_ <;> intro h2 <;> (simp only [decide_eq_true_eq, decide_eq_false_iff_not, bne_iff_ne, ne_eq, bne_eq_false_iff_eq, beq_iff_eq, beq_eq_false_iff_ne, Bool.not_eq_true', Bool.not_eq_false', Bool.and_eq_true, Bool.or_eq_true, Int.natCast_inj] at h2)
      · (repeat (first | refine VC.seq ?_ | refine VC.block ?_ | refine VC.kill ?_ | refine VC.skip ?_ | refine VC.exit ?_ | refine VC.regA ?_ | refine VC.condT ?_ | refine VC.condF ?_))
        refine VC.ret (Fin.A ?_)
        rw [decide_eq_false (by intro e; subst e; exact h2 ⟨rfl, rfl⟩)]; rfl
      · (repeat (first | refine VC.seq ?_ | refine VC.block ?_ | refine VC.kill ?_ | refine VC.skip ?_ | refine VC.exit ?_ | refine VC.regA ?_ | refine VC.condT ?_ | refine VC.condF ?_))
        refine ⟨_, i + 1, ?_, ⟨rfl, by omega, ?_⟩, ?_⟩
        · omega
        · rw [List.take_add_one, List.take_add_one, List.getElem?_eq_getElem h, List.getElem?_eq_getElem (by omega : i < b.length), he]
          have : a[i] = b[i] := Prod.ext h2.1 h2.2
          rw [this]
        · (apply Go.Ab.V.G.weak; constructor <;> simp (config := {decide := true}) only [PT.Le, inV, mkB, PT.set, VSt.kill, VSt.adopt, VSt.alloc, PT.filt, PT.map, List.map_cons, List.map_nil, noref, norefB, deadB, deadV, nos, nm, nmL, nmB, nmE, Pa.eqb, cond_true, cond_false, Bool.not_true, Bool.not_false, Bool.and_true, Bool.true_and, nmL_vi, flV_len, flP_len, flV_nm, flV_ok, flV_pv, flP_map, drop_flP, drop_flV, putC_flV, eqV2, eqV3, bneT, bneF, decide_true, decide_false, frzL_vi, frzL_flV, nmE_ag, nmE_at, frzE_ag, frzE_at, ofAg_len, ofAt_len, atL_vi, nmL_map_p, frzL_map_p, okL_p, toPVs_p, repsZ, nmL_reps, putC_vi, get_flV0, get_flV1, Int.toNat_zero, Int.toNat_one, Int.reduceToNat, eqV_slice, eqV_ptr, eqV_func, nilS, nilP, nilF, nmL_append, true_or, or_true, and_self, true_and, and_true, Option.some.injEq, reduceCtorEq, false_or, or_false, VV.p.injEq, PV.at.injEq, Value.int.injEq, sl1, vi, bl1, vb, nilV, slP]); rfl
    · (repeat (first | refine VC.seq ?_ | refine VC.block ?_ | refine VC.kill ?_ | refine VC.skip ?_ | refine VC.exit ?_ | refine VC.regA ?_ | refine VC.condT ?_ | refine VC.condF ?_))
      refine VC.ret (Fin.A ?_)
      rw [List.take_of_length_le (by omega), List.take_of_length_le (by omega)] at he
      rw [decide_eq_true he]; rfl
end Go.Ab.Dues

namespace Go.Ab.Dues
open Go.Ab.V
set_option maxRecDepth 100000
theorem costP_bd {c : Can} (h : okC c) (P : Nat) : 0 ≤ costP c.cost P ∧ costP c.cost P ≤ 10000 := by
  have := sumL_pos ((bitsN P).map fun p => c.cost.getD p 0) 1000 (fun x hx => by
    obtain ⟨p, _, rfl⟩ := List.mem_map.1 hx
    exact cost_getD h p)
  rw [List.length_map] at this
  have hl := bitsN_len P
  have h2 : (bitsN P).length * 1000 ≤ 10 * 1000 := Nat.mul_le_mul_right _ hl
  unfold costP
  omega
theorem needK_lt2 {c : Can} (h : okC c) (s : Nat) : (needK c c.ships.length).getD s 0 < 2 ^ c.cost.length := by
  by_cases hs : s < 10
  · have := pieces_lt2 h c.ships.length (2 ^ s)
    have e := pieces_snoc (needK c c.ships.length) 0 s hs
    rw [Nat.zero_or, pieces_zero, Nat.zero_or] at e
    rw [e] at this; exact this
  · rw [List.getD_eq_getElem?_getD, List.getElem?_eq_none (by rw [needK_len]; omega)]
    exact Nat.pow_pos (by decide)
set_option maxHeartbeats 8000000 in
theorem RByOrder_ok (c : Can) (h : okC c) (l : List Nat) (hm : ∀ s ∈ l, s < c.ships.length) (hl : l.length = c.ships.length) : VCall cfg 23 [canV c, sl1 (natI l)] [] [] (sl1 (byO c l)) [] := by
  have h7 := h.s7
  have h10 := h.n10
  have kn := RNeeds_ok c h
  have kc := RCost_ok c h
  have hcb := fun P => costP_bd h P
  rw [← rbO_eq c l (fun s hs => by have := hm s hs; omega)]
  have hgd : ∀ s, s < c.ships.length → (needK c c.ships.length).getD s 0 = ch c (c.ships.getD s (-1)) := fun s hs => by
    rw [List.getD_eq_getElem?_getD, List.getElem?_eq_getElem (by rw [needK_len]; omega), Option.getD_some, needK_get, if_pos hs]
  have hndl := fun s => needK_lt2 h s
  have hst := fun i (hi : i < l.length) => fold_take (rbStep c) (List.replicate l.length 0, 0) l i hi
  have h0 : (l.take 0).foldl (rbStep c) (List.replicate l.length 0, 0) = (List.replicate l.length 0, 0) := rfl
  have hend : rbO c l = ((l.take l.length).foldl (rbStep c) (List.replicate l.length 0, 0)).1 := by rw [List.take_length]; rfl
  rw [hend]
  have hinv : ∀ i, i ≤ l.length → ((l.take i).foldl (rbStep c) (List.replicate l.length 0, 0)).1.length = l.length ∧ ((l.take i).foldl (rbStep c) (List.replicate l.length 0, 0)).2 < 2 ^ c.cost.length := by
    intro i
    induction i with
    | zero => intro _; exact ⟨List.length_replicate, Nat.pow_pos (by decide)⟩
    | succ i ih =>
      intro hi
      have := ih (by omega)
      rw [hst i (by omega)]
      exact ⟨by simp only [rbStep, List.length_set]; exact this.1, Nat.or_lt_two_pow this.2 (hndl _)⟩
  generalize hG : (fun i => (l.take i).foldl (rbStep c) (List.replicate l.length 0, 0)) = G
  have hG' : ∀ i, (l.take i).foldl (rbStep c) (List.replicate l.length 0, 0) = G i := fun i => by rw [← hG]
  simp only [hG'] at hinv hst h0 ⊢
  clear hG hG' hend
  obtain ⟨L, hLL⟩ : ∃ L, natI l = L := ⟨_, rfl⟩
  have hlL : L.length = l.length := by rw [← hLL]; exact natI_len l
  have hgL : ∀ i (h : i < L.length) (h2 : i < l.length), L[i] = ((l[i] : Nat) : Int) := fun i h h2 => by subst hLL; exact natI_get l i h
  have hmem : ∀ i (hi : i < l.length), l[i] < c.ships.length := fun i hi => hm _ (List.getElem_mem hi)
  rw [hLL]
  clear hLL hm
  have hp10 : 2 ^ c.cost.length ≤ 1024 := (show 2 ^ c.cost.length ≤ 2 ^ 10 from Nat.pow_le_pow_right (by decide) (by rw [h.cl]; exact h10))
  have hrb : ∀ q s, rbStep c q s = (q.1.set s (costP c.cost (andN ((needK c c.ships.length).getD s 0) q.2)), q.2 ||| (needK c c.ships.length).getD s 0) := fun _ _ => rfl
  generalize hND : needK c c.ships.length = nd at *
  unfold canV at *
  (refine VCall.mk (fn := a23) rfl rfl rfl ?_; simp only [a23, inV, mkB, nmsL, PT.set])
  (repeat (first | refine VC.seq ?_ | refine VC.block ?_ | refine VC.kill ?_ | refine VC.skip ?_ | refine VC.exit ?_ | refine VC.regA ?_ | refine VC.condT ?_ | refine VC.condF ?_))
  refine VC.loopG (fun (i : Nat) => ⟨inV [p1, p2, p5, p6, p7] [sl1 L, .op 0 p2 0, .os 1 p11 L.length, vi ((G i).2 : Nat), vi i] .lf, mkB [(p2, .cells [sl1 c.up, sl1 c.cost, sl1 c.ships]), (p11, .cells ((G i).1.map vi))] .lf, [], none⟩) (fun n i => n = L.length - i ∧ i ≤ L.length) (x := 0) ?_ ⟨rfl, Nat.zero_le _⟩ ?_
  · rw [h0, ← hlL]
    (apply Go.Ab.V.G.weak; constructor <;> simp (config := {decide := true}) only [PT.Le, inV, mkB, PT.set, VSt.kill, VSt.adopt, VSt.alloc, PT.filt, PT.map, List.map_cons, List.map_nil, noref, norefB, deadB, deadV, nos, nm, nmL, nmB, nmE, Pa.eqb, cond_true, cond_false, Bool.not_true, Bool.not_false, Bool.and_true, Bool.true_and, nmL_vi, flV_len, flP_len, flV_nm, flV_ok, flV_pv, flP_map, drop_flP, drop_flV, putC_flV, eqV2, eqV3, bneT, bneF, decide_true, decide_false, frzL_vi, frzL_flV, nmE_ag, nmE_at, frzE_ag, frzE_at, ofAg_len, ofAt_len, atL_vi, nmL_map_p, frzL_map_p, okL_p, toPVs_p, repsZ, nmL_reps, putC_vi, get_flV0, get_flV1, Int.toNat_zero, Int.toNat_one, Int.reduceToNat, eqV_slice, eqV_ptr, eqV_func, nilS, nilP, nilF, nmL_append, true_or, or_true, and_self, true_and, and_true, Option.some.injEq, reduceCtorEq, false_or, or_false, VV.p.injEq, PV.at.injEq, Value.int.injEq, sl1, vi, bl1, vb, nilV, sl1])
    (all_goals first | rfl | omega | exact ⟨rfl, by omega⟩)
  rintro n i ⟨hn, hi⟩
  simp only [inV, PT.set, mkB]
  obtain ⟨i1, i2⟩ := hinv i (by omega)
  have hst := hst i
  have hend : i = L.length → G l.length = G i := fun e => by rw [← hlL, e]
  generalize hq : G i = q at *
  obtain ⟨out, b⟩ := q
  simp only at i1 i2 hst
  (repeat (first | refine VC.seq ?_ | refine VC.block ?_ | refine VC.kill ?_ | refine VC.skip ?_ | refine VC.exit ?_ | refine VC.regA ?_ | refine VC.condT ?_ | refine VC.condF ?_))
  refine VC.condA ?_ ?_ <;> intro h' <;> (simp only [decide_eq_true_eq, decide_eq_false_iff_not, bne_iff_ne, ne_eq, bne_eq_false_iff_eq, beq_iff_eq, beq_eq_false_iff_ne, Bool.not_eq_true', Bool.not_eq_false', Bool.and_eq_true, Bool.or_eq_true, Int.natCast_inj] at h')
  · have h' : i < L.length := by omega
    have h'' : i < l.length := by omega
    have hst := hst h''
    have hg := hgL i h' h''
    have hs := hmem i h''
    have hw := hndl l[i]
    have k1 := kn l[i] hs
    rw [← hgd _ hs] at k1
    rw [hrb] at hst
    simp only at hst
    generalize l[i] = s at *
    generalize nd.getD s 0 = w at *
    have han := andN_le w b
    have k2 := kc (andN w b) (by omega)
    have hcb := hcb (andN w b)
    have hor := or_i64 (a := b) (b := w) (by omega) (by omega)
    have handn := andn_i64 (a := w) (b := b) (by omega) (by omega)
    have hpv := putC_vi out s (costP c.cost (andN w b)) (by omega)
    have hse : s < out.length := by omega
    have hlo : out.length = L.length := by omega
    generalize costP c.cost (andN w b) = x at *
    generalize andN w b = wb at *
    generalize b ||| w = b2 at *
    (repeat (first | refine VC.seq ?_ | refine VC.block ?_ | refine VC.kill ?_ | refine VC.skip ?_ | refine VC.exit ?_ | refine VC.regA ?_ | refine VC.condT ?_ | refine VC.condF ?_))
    refine VC.regCA ?_
    refine VO.moreA ?_
    rw [hg]
    refine VO.call0A (no_orc 34 (by decide)) k1 ?_
    (refine VO.endA ?_; (repeat (first | refine VC.seq ?_ | refine VC.block ?_ | refine VC.kill ?_ | refine VC.skip ?_ | refine VC.exit ?_ | refine VC.regA ?_ | refine VC.condT ?_ | refine VC.condF ?_)))
    refine VC.planP [] rfl ?_
    (apply VPl.run; · ((simp (config := {decide := false, maxSteps := 1000000}) (disch := omega) only [vev_call, putC_c0, putC_n0, putC_cs, ble0, List.getElem?_cons_zero, List.getElem?_cons_succ, runU, isCall, wantV, vev, evV, ofVal, ofAtom, atomB, cond_true, cond_false, PT.get, PT.set, PT.filt, PT.map, Option.getD_some, Option.getD_none, ret1V, ret1X, v_ld, v_ias, v_iad, v_fad, v_slsl, v_slarr, v_st, v_app, v_cpy, v_clr, v_len, v_look, v_mset, elsV, partV, newV, free, atV, atI, atL, toVal, cellsV, okV, VSt.put, VSt.kill, VSt.alloc, VSt.frz, VSt.adopt, noref, norefB, deadB, deadV, nos, nm, nmL, nmB, nmE, Pa.eqb, Bool.not_false, Bool.not_true, Bool.and_true, Bool.true_and, Bool.false_and, Bool.and_false, bin, intOps, intBin, cvt, un, goInt, bndsV, bndV, Option.map_some, Option.map_none, List.map_cons, List.map_nil, Int.toNat_natCast, Nat.mul_one, Nat.zero_add, beq_true, beq_false, beq_self_eq_true, List.length_map, List.length_cons, List.length_nil, List.length_append, fillV, pEvV, repsV, List.append_nil, List.nil_append, if_pos, if_neg, reduceIte, List.getElem?_map, List.getElem?_drop, Nat.add_zero, List.getElem?_eq_getElem, Go.IntWalk.i64_in, wrap_u64, tmod_pos, eq_self, true_and, and_true, and_self, List.all_cons, List.all_nil, nmL_vi, flV_len, flP_len, flV_nm, flV_ok, flV_pv, flP_map, drop_flP, drop_flV, putC_flV, eqV2, eqV3, bneT, bneF, decide_true, decide_false, frzL_vi, frzL_flV, nmE_ag, nmE_at, frzE_ag, frzE_at, ofAg_len, ofAt_len, atL_vi, nmL_map_p, frzL_map_p, okL_p, toPVs_p, repsZ, nmL_reps, putC_vi, get_flV0, get_flV1, Int.toNat_zero, Int.toNat_one, Int.reduceToNat, eqV_slice, eqV_ptr, eqV_func, nilS, nilP, nilF, nmL_append, okL_vi, toPVs_vi, toPVs, toPV, frzV, frzL, frzB, resVV, vi, vb, nilV, sl1, bl1, pi, foldV, max2, min2, max_eq, min_eq, Int.tdiv_eq_ediv_of_nonneg, Int.cast_ofNat_Int, Option.isSome_none, Option.isSome_some, Option.isNone_none, Option.isNone_some, and_false, false_and, sl2, sl1P, slP, min_cast, take_map_pi, map_pi, Nat.sub_zero, Nat.zero_mul, List.length_take, decide_eq_true, decide_eq_false, Bool.true_eq_false, Bool.false_eq_true, beqT, beqF, ibeq, ibne, List.take_zero, List.take_succ_cons, List.drop_zero, List.drop_succ_cons, List.drop_nil, List.take_nil, List.cons_append, Bool.not_true, Bool.not_false, runP, pur, lookB, okPl, okPl1, List.any_cons, List.any_nil, Nat.reduceBEq, Nat.reduceEqDiff, beq_self_eq_true, Bool.or_false, Bool.or_true, Bool.false_or, Bool.true_or, Bool.not_true, Bool.not_false, Bool.and_true, Bool.true_and, Nat.zero_add, Nat.reduceAdd, nos, Pa.eqb, hg, handn]); rfl))
    refine VPl.call (no_orc 60 (by decide)) k2 rfl rfl rfl rfl ?_
    (apply VPl.run; · ((simp (config := {decide := false, maxSteps := 1000000}) (disch := omega) only [vev_call, putC_c0, putC_n0, putC_cs, ble0, List.getElem?_cons_zero, List.getElem?_cons_succ, runU, isCall, wantV, vev, evV, ofVal, ofAtom, atomB, cond_true, cond_false, PT.get, PT.set, PT.filt, PT.map, Option.getD_some, Option.getD_none, ret1V, ret1X, v_ld, v_ias, v_iad, v_fad, v_slsl, v_slarr, v_st, v_app, v_cpy, v_clr, v_len, v_look, v_mset, elsV, partV, newV, free, atV, atI, atL, toVal, cellsV, okV, VSt.put, VSt.kill, VSt.alloc, VSt.frz, VSt.adopt, noref, norefB, deadB, deadV, nos, nm, nmL, nmB, nmE, Pa.eqb, Bool.not_false, Bool.not_true, Bool.and_true, Bool.true_and, Bool.false_and, Bool.and_false, bin, intOps, intBin, cvt, un, goInt, bndsV, bndV, Option.map_some, Option.map_none, List.map_cons, List.map_nil, Int.toNat_natCast, Nat.mul_one, Nat.zero_add, beq_true, beq_false, beq_self_eq_true, List.length_map, List.length_cons, List.length_nil, List.length_append, fillV, pEvV, repsV, List.append_nil, List.nil_append, if_pos, if_neg, reduceIte, List.getElem?_map, List.getElem?_drop, Nat.add_zero, List.getElem?_eq_getElem, Go.IntWalk.i64_in, wrap_u64, tmod_pos, eq_self, true_and, and_true, and_self, List.all_cons, List.all_nil, nmL_vi, flV_len, flP_len, flV_nm, flV_ok, flV_pv, flP_map, drop_flP, drop_flV, putC_flV, eqV2, eqV3, bneT, bneF, decide_true, decide_false, frzL_vi, frzL_flV, nmE_ag, nmE_at, frzE_ag, frzE_at, ofAg_len, ofAt_len, atL_vi, nmL_map_p, frzL_map_p, okL_p, toPVs_p, repsZ, nmL_reps, putC_vi, get_flV0, get_flV1, Int.toNat_zero, Int.toNat_one, Int.reduceToNat, eqV_slice, eqV_ptr, eqV_func, nilS, nilP, nilF, nmL_append, okL_vi, toPVs_vi, toPVs, toPV, frzV, frzL, frzB, resVV, vi, vb, nilV, sl1, bl1, pi, foldV, max2, min2, max_eq, min_eq, Int.tdiv_eq_ediv_of_nonneg, Int.cast_ofNat_Int, Option.isSome_none, Option.isSome_some, Option.isNone_none, Option.isNone_some, and_false, false_and, sl2, sl1P, slP, min_cast, take_map_pi, map_pi, Nat.sub_zero, Nat.zero_mul, List.length_take, decide_eq_true, decide_eq_false, Bool.true_eq_false, Bool.false_eq_true, beqT, beqF, ibeq, ibne, List.take_zero, List.take_succ_cons, List.drop_zero, List.drop_succ_cons, List.drop_nil, List.take_nil, List.cons_append, Bool.not_true, Bool.not_false, runP, pur, lookB, okPl, okPl1, List.any_cons, List.any_nil, Nat.reduceBEq, Nat.reduceEqDiff, beq_self_eq_true, Bool.or_false, Bool.or_true, Bool.false_or, Bool.true_or, Bool.not_true, Bool.not_false, Bool.and_true, Bool.true_and, Nat.zero_add, Nat.reduceAdd, nos, Pa.eqb]); rfl))
    refine VPl.stop (by decide) ?_
    refine VO.endA ?_
    (repeat (first | refine VC.seq ?_ | refine VC.block ?_ | refine VC.kill ?_ | refine VC.skip ?_ | refine VC.exit ?_ | refine VC.regA ?_ | refine VC.condT ?_ | refine VC.condF ?_))
    refine ⟨_, i + 1, ?_, ⟨rfl, by omega⟩, ?_⟩
    · omega
    · rw [hst]
      simp only [hor]
      (apply Go.Ab.V.G.weak; constructor <;> simp (config := {decide := true}) only [PT.Le, inV, mkB, PT.set, VSt.kill, VSt.adopt, VSt.alloc, PT.filt, PT.map, List.map_cons, List.map_nil, noref, norefB, deadB, deadV, nos, nm, nmL, nmB, nmE, Pa.eqb, cond_true, cond_false, Bool.not_true, Bool.not_false, Bool.and_true, Bool.true_and, nmL_vi, flV_len, flP_len, flV_nm, flV_ok, flV_pv, flP_map, drop_flP, drop_flV, putC_flV, eqV2, eqV3, bneT, bneF, decide_true, decide_false, frzL_vi, frzL_flV, nmE_ag, nmE_at, frzE_ag, frzE_at, ofAg_len, ofAt_len, atL_vi, nmL_map_p, frzL_map_p, okL_p, toPVs_p, repsZ, nmL_reps, putC_vi, get_flV0, get_flV1, Int.toNat_zero, Int.toNat_one, Int.reduceToNat, eqV_slice, eqV_ptr, eqV_func, nilS, nilP, nilF, nmL_append, true_or, or_true, and_self, true_and, and_true, Option.some.injEq, reduceCtorEq, false_or, or_false, VV.p.injEq, PV.at.injEq, Value.int.injEq, sl1, vi, bl1, vb, nilV, sl1])
      (all_goals first | rfl | omega | exact ⟨rfl, by omega⟩)
  · have h' : i = L.length := by omega
    rw [hend h']
    subst h'
    simp only
    have hlo : out.length = L.length := by omega
    rw [show sl1 out = .p (.sl 1 L.length (out.map pi)) from by unfold sl1; rw [hlo]]
    (repeat (first | refine VC.seq ?_ | refine VC.block ?_ | refine VC.kill ?_ | refine VC.skip ?_ | refine VC.exit ?_ | refine VC.regA ?_ | refine VC.condT ?_ | refine VC.condF ?_))
    exact VC.ret (Fin.frzA p11 (hb := rfl) (hc := toPVs_vi out) (Fin.A rfl))
end Go.Ab.Dues

namespace Go.Ab.Dues
open Go.Ab.V
set_option maxRecDepth 100000
/-! ### Least, Greatest, Without -/
end Go.Ab.Dues

namespace Go.Ab.Dues
open Go.Ab.V
set_option maxRecDepth 100000
def idx (l : List Int) (v : Int) : Int := if v ∈ l then (l.findIdx fun y => decide (y = v) : Nat) else -1
theorem idx_hit {l : List Int} {v : Int} {i : Nat} (h : i < l.length) (hv : l[i] = v) (hn : ∀ k (hk : k < i), l[k]'(by omega) ≠ v) : idx l v = i := by
  unfold idx
  rw [if_pos (by rw [← hv]; exact List.getElem_mem h)]
  congr 1
  rw [List.findIdx_eq h]
  exact ⟨by simp [hv], fun j hj => by simp [hn j hj]⟩
theorem idx_pos (l : List Int) (v : Int) : decide (idx l v ≥ 0) = decide (v ∈ l) := by
  unfold idx
  by_cases h : v ∈ l
  · rw [if_pos h]; simp [h]
  · rw [if_neg h]; simp [h]
set_option maxHeartbeats 4000000 in
theorem Index_ok (l : List Int) (v : Int) (hl : l.length ≤ 1000000) : VCall cfg 88 [sl1 l, vi v] [] [] (vi (idx l v)) [] := by
  (refine VCall.mk (fn := a88) rfl rfl rfl ?_; simp only [a88, inV, mkB, nmsL, PT.set])
  (repeat (first | refine VC.seq ?_ | refine VC.block ?_ | refine VC.kill ?_ | refine VC.skip ?_ | refine VC.exit ?_ | refine VC.regA ?_ | refine VC.condT ?_ | refine VC.condF ?_))
  refine VC.loopG (fun (i : Nat) => ⟨inV [p0, p1, p7, p8] [sl1 l, vi v, vi l.length, vi i] .lf, .lf, [], none⟩) (fun n i => n = l.length - i ∧ i ≤ l.length ∧ ∀ k (hk : k < i) (hk' : k < l.length), l[k] ≠ v) (x := 0) ?_ ⟨rfl, by omega, fun k hk => absurd hk (Nat.not_lt_zero k)⟩ ?_
  · (apply Go.Ab.V.G.weak; constructor <;> simp (config := {decide := true}) only [PT.Le, inV, mkB, PT.set, VSt.kill, VSt.adopt, VSt.alloc, PT.filt, PT.map, List.map_cons, List.map_nil, noref, norefB, deadB, deadV, nos, nm, nmL, nmB, nmE, Pa.eqb, cond_true, cond_false, Bool.not_true, Bool.not_false, Bool.and_true, Bool.true_and, nmL_vi, flV_len, flP_len, flV_nm, flV_ok, flV_pv, flP_map, drop_flP, drop_flV, putC_flV, eqV2, eqV3, bneT, bneF, decide_true, decide_false, frzL_vi, frzL_flV, nmE_ag, nmE_at, frzE_ag, frzE_at, ofAg_len, ofAt_len, atL_vi, nmL_map_p, frzL_map_p, okL_p, toPVs_p, repsZ, nmL_reps, putC_vi, get_flV0, get_flV1, Int.toNat_zero, Int.toNat_one, Int.reduceToNat, eqV_slice, eqV_ptr, eqV_func, nilS, nilP, nilF, nmL_append, true_or, or_true, and_self, true_and, and_true, Option.some.injEq, reduceCtorEq, false_or, or_false, VV.p.injEq, PV.at.injEq, Value.int.injEq, sl1, vi, bl1, vb, nilV, sl1])
    (all_goals first | rfl | omega | exact ⟨rfl, by omega⟩)
  rintro n i ⟨hn, hi, ho⟩
  simp only [inV, PT.set]
  (repeat (first | refine VC.seq ?_ | refine VC.block ?_ | refine VC.kill ?_ | refine VC.skip ?_ | refine VC.exit ?_ | refine VC.regA ?_ | refine VC.condT ?_ | refine VC.condF ?_))
  refine VC.condA ?_ ?_ <;> intro h <;> (simp only [decide_eq_true_eq, decide_eq_false_iff_not, bne_iff_ne, ne_eq, bne_eq_false_iff_eq, beq_iff_eq, beq_eq_false_iff_ne, Bool.not_eq_true', Bool.not_eq_false', Bool.and_eq_true, Bool.or_eq_true, Int.natCast_inj] at h)
  · have h : i < l.length := by omega
    (repeat (first | refine VC.seq ?_ | refine VC.block ?_ | refine VC.kill ?_ | refine VC.skip ?_ | refine VC.exit ?_ | refine VC.regA ?_ | refine VC.condT ?_ | refine VC.condF ?_))
    refine VC.condA ?_ ?_ <;> intro h' <;> (simp only [decide_eq_true_eq, decide_eq_false_iff_not, bne_iff_ne, ne_eq, bne_eq_false_iff_eq, beq_iff_eq, beq_eq_false_iff_ne, Bool.not_eq_true', Bool.not_eq_false', Bool.and_eq_true, Bool.or_eq_true, Int.natCast_inj] at h')
    · (repeat (first | refine VC.seq ?_ | refine VC.block ?_ | refine VC.kill ?_ | refine VC.skip ?_ | refine VC.exit ?_ | refine VC.regA ?_ | refine VC.condT ?_ | refine VC.condF ?_))
      rw [idx_hit h h'.symm (fun k hk => ho k hk (by omega))]
      exact VC.ret (Fin.A rfl)
    · (repeat (first | refine VC.seq ?_ | refine VC.block ?_ | refine VC.kill ?_ | refine VC.skip ?_ | refine VC.exit ?_ | refine VC.regA ?_ | refine VC.condT ?_ | refine VC.condF ?_))
      refine ⟨_, i + 1, ?_, ⟨rfl, by omega, fun k hk hk' => ?_⟩, ?_⟩
      · omega
      · rcases Nat.lt_or_ge k i with h1 | h1
        · exact ho k h1 hk'
        · have : k = i := by omega
          subst this; exact fun h => h' h.symm
      · (apply Go.Ab.V.G.weak; constructor <;> simp (config := {decide := true}) only [PT.Le, inV, mkB, PT.set, VSt.kill, VSt.adopt, VSt.alloc, PT.filt, PT.map, List.map_cons, List.map_nil, noref, norefB, deadB, deadV, nos, nm, nmL, nmB, nmE, Pa.eqb, cond_true, cond_false, Bool.not_true, Bool.not_false, Bool.and_true, Bool.true_and, nmL_vi, flV_len, flP_len, flV_nm, flV_ok, flV_pv, flP_map, drop_flP, drop_flV, putC_flV, eqV2, eqV3, bneT, bneF, decide_true, decide_false, frzL_vi, frzL_flV, nmE_ag, nmE_at, frzE_ag, frzE_at, ofAg_len, ofAt_len, atL_vi, nmL_map_p, frzL_map_p, okL_p, toPVs_p, repsZ, nmL_reps, putC_vi, get_flV0, get_flV1, Int.toNat_zero, Int.toNat_one, Int.reduceToNat, eqV_slice, eqV_ptr, eqV_func, nilS, nilP, nilF, nmL_append, true_or, or_true, and_self, true_and, and_true, Option.some.injEq, reduceCtorEq, false_or, or_false, VV.p.injEq, PV.at.injEq, Value.int.injEq, sl1, vi, bl1, vb, nilV, sl1])
        (all_goals first | rfl | omega | exact ⟨rfl, by omega⟩)
  · have h : i = l.length := by omega
    have : idx l v = -1 := by
      unfold idx
      rw [if_neg]
      intro hm
      obtain ⟨k, hk, e⟩ := List.mem_iff_getElem.1 hm
      exact ho k (by omega) hk e
    rw [this]
    (repeat (first | refine VC.seq ?_ | refine VC.block ?_ | refine VC.kill ?_ | refine VC.skip ?_ | refine VC.exit ?_ | refine VC.regA ?_ | refine VC.condT ?_ | refine VC.condF ?_))
    exact VC.ret (Fin.A rfl)
set_option maxHeartbeats 4000000 in
theorem Contains_ok (l : List Int) (v : Int) (hl : l.length ≤ 1000000) : VCall cfg 87 [sl1 l, vi v] [] [] (vb (decide (v ∈ l))) [] := by
  have k := Index_ok l v hl
  rw [← idx_pos]
  (refine VCall.mk (fn := a87) rfl rfl rfl ?_; simp only [a87, inV, mkB, nmsL, PT.set])
  (repeat (first | refine VC.seq ?_ | refine VC.block ?_ | refine VC.kill ?_ | refine VC.skip ?_ | refine VC.exit ?_ | refine VC.regA ?_ | refine VC.condT ?_ | refine VC.condF ?_))
  (refine VC.regCA ?_; refine VO.moreA ?_; refine VO.call0A (no_orc _ (by decide)) k ?_; refine VO.endA ?_; (repeat (first | refine VC.seq ?_ | refine VC.block ?_ | refine VC.kill ?_ | refine VC.skip ?_ | refine VC.exit ?_ | refine VC.regA ?_ | refine VC.condT ?_ | refine VC.condF ?_)))
  exact VC.ret (Fin.A rfl)
/-! ### All orders -/
def outR (f : Nat → List (List Nat)) (n : Nat) : Nat → List (List Nat)
  | 0 => []
  | r + 1 => f (n - (r + 1)) ++ outR f n r
def outs (n : Nat) : Nat → List Nat → List (List Nat)
  | 0, l => [l]
  | d + 1, l => outR (fun s => if s ∈ l then [] else outs n d (l ++ [s])) n n
def itm (l : List Nat) : Itm := ([.os 1 p40 l.length], [(p40, .cells ((natI l).map vi))])
def itms (L : List (List Nat)) : List Itm := L.map itm
theorem itms_app (a b : List (List Nat)) : itms (a ++ b) = itms a ++ itms b := by simp [itms]
/-- The slice of the order so far, with room for 'c'. -/
def lv (m c : Nat) : VV := if m = c then .os 1 p40 m else .ob 1 p40 0 m c
def gcap (n : Nat) : List VV := [.op 0 p3 0, .p (.fp 0 [pi n]), .op 0 p2 0, .op 0 p4 0]
def gB (kk m c : Nat) (n : Nat) : List (Pa × VB) := [(p3, .cells [lv m c]), (p2, .cells [.yl kk]), (p4, .cells [.clos 86 [] (gcap n)])]
def gR (kk n m : Nat) (l : List Nat) (rest : List Itm) (y : VV) (B' : List (Pa × VB)) (rest' : List Itm) (live : Bool) : Prop :=
  (live = true ∧ y = vb true ∧ rest' = rest ∧ ∃ (c : Nat) (A : List Int), m ≤ c ∧ c ≤ n ∧ A.length = c ∧ A.take m = natI l ∧ B' = gB kk m c n ++ [(p40, .cells (A.map vi))]) ∨ (live = false ∧ y = vb false ∧ B' = [])
theorem take_set_succ (A : List Int) (m : Nat) (x : Int) (h : m < A.length) : (A.set m x).take (m + 1) = A.take m ++ [x] := by
  rw [List.take_add_one, List.getElem?_set_self h]
  simp [List.take_set_of_le]
theorem VC.exG {C : Cfg} {S : VSt} {c : ACode} {Q : Ex → VSt → Prop} {α : Type} (st : α → VSt) (P : α → Prop) (hg : ∃ x, P x ∧ G S (st x)) (hq : ∀ x, P x → VC C c (st x) Q) : VC C c S Q :=
  let ⟨x, hx, g⟩ := hg; VC.ghost g (hq x hx)
def GrowAt (kk n d : Nat) : Prop := ∀ (rest : List Itm) (l : List Nat) (c : Nat) (A : List Int), l.length + d = n → l.length ≤ c → c ≤ n → A.length = c → A.take l.length = natI l →
    VYCall cfg 86 kk (gcap n) (gB kk l.length c n) [(p40, .cells (A.map vi))] false (itms (outs n d l) ++ rest) (gR kk n l.length l rest)
set_option maxHeartbeats 8000000 in
theorem grow_0 (kk n : Nat) : GrowAt kk n 0 := by
    intro rest l c A hd h1 h2 h3 h4
    have hc : c = l.length := by omega
    have hA : A = natI l := by rw [← h4, List.take_of_length_le (by omega)]
    have hln : l.length = n := by omega
    subst hA hc
    refine VYCall.mk (fn := a86) rfl rfl ?_
    simp only [a86, gcap, gB, lv, if_pos, inV, PT.set, mkB, nmsL, List.cons_append, List.nil_append, outs, itms, List.map_cons, List.map_nil, itm]
    (repeat (first | refine VC.seq ?_ | refine VC.block ?_ | refine VC.kill ?_ | refine VC.skip ?_ | refine VC.exit ?_ | refine VC.regA ?_ | refine VC.condT ?_ | refine VC.condF ?_))
    apply VC.regC
    · (simp (config := {decide := false, maxSteps := 1000000}) (disch := omega) only [vev_call, putC_c0, putC_n0, putC_cs, ble0, List.getElem?_cons_zero, List.getElem?_cons_succ, runU, isCall, wantV, vev, evV, ofVal, ofAtom, atomB, cond_true, cond_false, PT.get, PT.set, PT.filt, PT.map, Option.getD_some, Option.getD_none, ret1V, ret1X, v_ld, v_ias, v_iad, v_fad, v_slsl, v_slarr, v_st, v_app, v_cpy, v_clr, v_len, v_look, v_mset, elsV, partV, newV, free, atV, atI, atL, toVal, cellsV, okV, VSt.put, VSt.kill, VSt.alloc, VSt.frz, VSt.adopt, noref, norefB, deadB, deadV, nos, nm, nmL, nmB, nmE, Pa.eqb, Bool.not_false, Bool.not_true, Bool.and_true, Bool.true_and, Bool.false_and, Bool.and_false, bin, intOps, intBin, cvt, un, goInt, bndsV, bndV, Option.map_some, Option.map_none, List.map_cons, List.map_nil, Int.toNat_natCast, Nat.mul_one, Nat.zero_add, beq_true, beq_false, beq_self_eq_true, List.length_map, List.length_cons, List.length_nil, List.length_append, fillV, pEvV, repsV, List.append_nil, List.nil_append, if_pos, if_neg, reduceIte, List.getElem?_map, List.getElem?_drop, Nat.add_zero, List.getElem?_eq_getElem, Go.IntWalk.i64_in, wrap_u64, tmod_pos, eq_self, true_and, and_true, and_self, List.all_cons, List.all_nil, nmL_vi, flV_len, flP_len, flV_nm, flV_ok, flV_pv, flP_map, drop_flP, drop_flV, putC_flV, eqV2, eqV3, bneT, bneF, decide_true, decide_false, frzL_vi, frzL_flV, nmE_ag, nmE_at, frzE_ag, frzE_at, ofAg_len, ofAt_len, atL_vi, nmL_map_p, frzL_map_p, okL_p, toPVs_p, repsZ, nmL_reps, putC_vi, get_flV0, get_flV1, Int.toNat_zero, Int.toNat_one, Int.reduceToNat, eqV_slice, eqV_ptr, eqV_func, nilS, nilP, nilF, nmL_append, okL_vi, toPVs_vi, toPVs, toPV, frzV, frzL, frzB, resVV, vi, vb, nilV, sl1, bl1, pi, foldV, max2, min2, max_eq, min_eq, Int.tdiv_eq_ediv_of_nonneg, Int.cast_ofNat_Int, Option.isSome_none, Option.isSome_some, Option.isNone_none, Option.isNone_some, and_false, false_and, sl2, sl1P, slP, min_cast, take_map_pi, map_pi, Nat.sub_zero, Nat.zero_mul, List.length_take, decide_eq_true, decide_eq_false, Bool.true_eq_false, Bool.false_eq_true, beqT, beqF, ibeq, ibne, List.take_zero, List.take_succ_cons, List.drop_zero, List.drop_succ_cons, List.drop_nil, List.take_nil, List.cons_append, Bool.not_true, Bool.not_false])
      rfl
    refine VO.yieldA (fun b _ => ?_) (hB := by simp [mkB, PT.set, PT.Le]) (hn := by simp only [nmsB, nmB, nmL_vi]; rfl)
    refine VO.endA ?_
    (repeat (first | refine VC.seq ?_ | refine VC.block ?_ | refine VC.kill ?_ | refine VC.skip ?_ | refine VC.exit ?_ | refine VC.regA ?_ | refine VC.condT ?_ | refine VC.condF ?_))
    cases b with
    | false => exact VC.ret ⟨_, _, [], rest, false, G.refl, rfl, rfl, .inr ⟨rfl, rfl, rfl⟩, trivial, rfl, rfl⟩
    | true =>
      refine VC.ret ⟨_, _, gB kk l.length l.length n ++ [(p40, .cells ((natI l).map vi))], rest, true, G.refl, rfl, rfl, .inl ⟨rfl, rfl, rfl, l.length, natI l, Nat.le_refl _, by omega, natI_len l, by rw [List.take_of_length_le (by rw [natI_len]; exact Nat.le_refl _)], rfl⟩, ?_, rfl, rfl⟩
      simp [gB, lv, gcap, mkB, PT.set, PT.Le, pi]
set_option maxHeartbeats 8000000 in
theorem grow_s (kk n d : Nat) (hn : n ≤ 7) (ih : GrowAt kk n d) : GrowAt kk n (d + 1) := by
    intro rest l c A hd h1 h2 h3 h4
    have hmn : l.length < n := by omega
    refine VYCall.mk (fn := a86) rfl rfl ?_
    obtain ⟨m, hm⟩ : ∃ m, l.length = m := ⟨_, rfl⟩
    rw [hm] at h1 h4 hmn ⊢
    obtain ⟨f, hf⟩ : ∃ f : Nat → List (List Nat), (fun s => if s ∈ l then [] else outs n d (l ++ [s])) = f := ⟨_, rfl⟩
    have hfi : ∀ s, f s = if s ∈ l then [] else outs n d (l ++ [s]) := fun s => by rw [← hf]
    have ho : outs n (d + 1) l = outR f n n := by rw [← hf]; rfl
    rw [ho]
    simp only [a86, gcap, gB, inV, PT.set, mkB, nmsL, List.cons_append, List.nil_append]
    by_cases hmc : m = c
    case' pos =>
      have hlv : lv m c = .os 1 p40 m := if_pos hmc
      rw [hlv]
      (repeat (first | refine VC.seq ?_ | refine VC.block ?_ | refine VC.kill ?_ | refine VC.skip ?_ | refine VC.exit ?_ | refine VC.regA ?_ | refine VC.condT ?_ | refine VC.condF ?_))
    case' neg =>
      have hlv : lv m c = .ob 1 p40 0 m c := if_neg hmc
      rw [hlv]
      (repeat (first | refine VC.seq ?_ | refine VC.block ?_ | refine VC.kill ?_ | refine VC.skip ?_ | refine VC.exit ?_ | refine VC.regA ?_ | refine VC.condT ?_ | refine VC.condF ?_))
    all_goals
      refine VC.loopG (fun (q : Nat × Nat × List Int) => ⟨inV [p0, p3, p13, p14] [.op 0 p3 0, .op 0 p4 0, vi n, vi q.1] .lf, mkB [(p3, .cells [lv m q.2.1]), (p2, .cells [.yl kk]), (p4, .cells [.clos 86 [] (gcap n)]), (p40, .cells (q.2.2.map vi))] .lf, [p3, p2, p4], some ⟨kk, itms (outR f n (n - q.1)) ++ rest, true, false⟩⟩)
        (fun k q => k = n - q.1 ∧ q.1 ≤ n ∧ m ≤ q.2.1 ∧ q.2.1 ≤ n ∧ q.2.2.length = q.2.1 ∧ q.2.2.take m = natI l) (x := (0, c, A)) ?_ ⟨rfl, Nat.zero_le _, h1, h2, h3, h4⟩ ?_
      · rw [hlv]
        (apply Go.Ab.V.G.weak; constructor <;> simp (config := {decide := true}) only [PT.Le, inV, mkB, PT.set, VSt.kill, VSt.adopt, VSt.alloc, PT.filt, PT.map, List.map_cons, List.map_nil, noref, norefB, deadB, deadV, nos, nm, nmL, nmB, nmE, Pa.eqb, cond_true, cond_false, Bool.not_true, Bool.not_false, Bool.and_true, Bool.true_and, nmL_vi, flV_len, flP_len, flV_nm, flV_ok, flV_pv, flP_map, drop_flP, drop_flV, putC_flV, eqV2, eqV3, bneT, bneF, decide_true, decide_false, frzL_vi, frzL_flV, nmE_ag, nmE_at, frzE_ag, frzE_at, ofAg_len, ofAt_len, atL_vi, nmL_map_p, frzL_map_p, okL_p, toPVs_p, repsZ, nmL_reps, putC_vi, get_flV0, get_flV1, Int.toNat_zero, Int.toNat_one, Int.reduceToNat, eqV_slice, eqV_ptr, eqV_func, nilS, nilP, nilF, nmL_append, true_or, or_true, and_self, true_and, and_true, Option.some.injEq, reduceCtorEq, false_or, or_false, VV.p.injEq, PV.at.injEq, Value.int.injEq, sl1, vi, bl1, vb, nilV, gcap, pi])
        (all_goals first | rfl | omega | exact ⟨rfl, by omega⟩)
      rintro k0 ⟨i, c', A'⟩ ⟨hk0, hi, g1, g2, g3, g4⟩
      simp only at hk0 hi g1 g2 g3 g4
      clear hlv hmc h1 h2 h3 h4 A c
      simp only [inV, PT.set, mkB, gcap, pi]
      (repeat (first | refine VC.seq ?_ | refine VC.block ?_ | refine VC.kill ?_ | refine VC.skip ?_ | refine VC.exit ?_ | refine VC.regA ?_ | refine VC.condT ?_ | refine VC.condF ?_))
      refine VC.condA ?_ ?_ <;> intro h' <;> (simp only [decide_eq_true_eq, decide_eq_false_iff_not, bne_iff_ne, ne_eq, bne_eq_false_iff_eq, beq_iff_eq, beq_eq_false_iff_ne, Bool.not_eq_true', Bool.not_eq_false', Bool.and_eq_true, Bool.or_eq_true, Int.natCast_inj] at h')
      · have h' : i < n := by omega
        obtain ⟨r, hr⟩ : ∃ r, n - i = r + 1 := ⟨n - i - 1, by omega⟩
        have hr2 : n - (i + 1) = r := by omega
        have hr3 : n - (r + 1) = i := by omega
        have hH : outR f n (n - i) = f i ++ outR f n r := by rw [hr]; show f (n - (r + 1)) ++ _ = _; rw [hr3]
        rw [hH]
        have kc := Contains_ok (natI l) i (by rw [natI_len]; omega)
        have hmem : decide ((i : Int) ∈ natI l) = decide (i ∈ l) := by
          rw [decide_eq_decide]
          unfold natI
          rw [List.mem_map]
          exact ⟨fun ⟨a, ha, e⟩ => by have e : a = i := by omega
                                      rw [← e]; exact ha, fun h => ⟨i, h, rfl⟩⟩
        rw [hmem] at kc
        have hbor : borL [(p40, A'.map pi)] [lv m c', vi i] = [sl1 (natI l), vi i] := by
          have e : lv m c' = .os 1 p40 m ∧ m = c' ∨ lv m c' = .ob 1 p40 0 m c' := by
            unfold lv
            split
            · exact .inl ⟨rfl, by assumption⟩
            · exact .inr rfl
          have hz : (natI l).length = m := by rw [natI_len]; exact hm
          rcases e with ⟨e, e2⟩ | e
          · have : A' = natI l := by rw [← g4, List.take_of_length_le (by omega)]
            rw [e, this, sl1, hz]
            rfl
          · rw [e, ← g4, sl1, List.length_take, Nat.min_eq_left (by omega), List.map_take]
            have hb : Nat.ble (0 + m) (A'.map pi).length = true := by rw [List.length_map, Nat.ble_eq]; omega
            simp only [borL, borV, frzV, hb, Pa.eqb, Bool.and_true, cond_true, List.drop_zero, Nat.mul_one, vi]
        (repeat (first | refine VC.seq ?_ | refine VC.block ?_ | refine VC.kill ?_ | refine VC.skip ?_ | refine VC.exit ?_ | refine VC.regA ?_ | refine VC.condT ?_ | refine VC.condF ?_))
        refine VC.regCA ?_
        refine VO.moreA ?_
        refine VO.call [(p40, A'.map pi)] [] (mkB [(p3, .cells [lv m c']), (p2, .cells [.yl kk]), (p4, .cells [.clos 86 [] [.op 0 p3 0, .p (.fp 0 [.at (.int .i64 n)]), .op 0 p2 0, .op 0 p4 0]]), (p40, .cells (A'.map vi))] .lf) (y := vb (decide (i ∈ l))) (N := []) (B' := []) rfl rfl (no_orc 87 (by decide)) ?_ ⟨⟨_, rfl, toPVs_vi _⟩, trivial⟩ ?_ ?_ rfl rfl rfl rfl rfl rfl rfl ?_
        · show VCall cfg 87 (borL [(p40, A'.map pi)] [lv m c', vi i]) [] [] _ []
          rw [hbor]; exact kc
        · trivial
        · simp [mkB, PT.set, PT.Le]
        (simp only [filtN, filtNB, mkB, PT.set, VSt.put, PT.filt, noref, norefB, nos, nm, nmL, nmB, nmL_vi, nmL_map_p, nmE_ag, flV_nm, List.nil_append, List.append_nil, Pa.eqb, cond_true, cond_false, Bool.and_true, Bool.not_false, Bool.not_true])
        refine VO.endA ?_
        (repeat (first | refine VC.seq ?_ | refine VC.block ?_ | refine VC.kill ?_ | refine VC.skip ?_ | refine VC.exit ?_ | refine VC.regA ?_ | refine VC.condT ?_ | refine VC.condF ?_))
        clear hbor kc hmem
        refine VC.condA ?_ ?_ <;> intro hs <;> (simp only [decide_eq_true_eq, decide_eq_false_iff_not, bne_iff_ne, ne_eq, bne_eq_false_iff_eq, beq_iff_eq, beq_eq_false_iff_ne, Bool.not_eq_true', Bool.not_eq_false', Bool.and_eq_true, Bool.or_eq_true, Int.natCast_inj] at hs)
        · rw [hfi, if_pos hs, List.nil_append]
          (repeat (first | refine VC.seq ?_ | refine VC.block ?_ | refine VC.kill ?_ | refine VC.skip ?_ | refine VC.exit ?_ | refine VC.regA ?_ | refine VC.condT ?_ | refine VC.condF ?_))
          refine ⟨_, (i + 1, c', A'), ?_, ⟨rfl, by simp only; omega, g1, g2, g3, g4⟩, ?_⟩
          · simp only; omega
          · rw [← hr2]
            (apply Go.Ab.V.G.weak; constructor <;> simp (config := {decide := true}) only [PT.Le, inV, mkB, PT.set, VSt.kill, VSt.adopt, VSt.alloc, PT.filt, PT.map, List.map_cons, List.map_nil, noref, norefB, deadB, deadV, nos, nm, nmL, nmB, nmE, Pa.eqb, cond_true, cond_false, Bool.not_true, Bool.not_false, Bool.and_true, Bool.true_and, nmL_vi, flV_len, flP_len, flV_nm, flV_ok, flV_pv, flP_map, drop_flP, drop_flV, putC_flV, eqV2, eqV3, bneT, bneF, decide_true, decide_false, frzL_vi, frzL_flV, nmE_ag, nmE_at, frzE_ag, frzE_at, ofAg_len, ofAt_len, atL_vi, nmL_map_p, frzL_map_p, okL_p, toPVs_p, repsZ, nmL_reps, putC_vi, get_flV0, get_flV1, Int.toNat_zero, Int.toNat_one, Int.reduceToNat, eqV_slice, eqV_ptr, eqV_func, nilS, nilP, nilF, nmL_append, true_or, or_true, and_self, true_and, and_true, Option.some.injEq, reduceCtorEq, false_or, or_false, VV.p.injEq, PV.at.injEq, Value.int.injEq, sl1, vi, bl1, vb, nilV, gcap, pi])
            (all_goals first | rfl | omega | exact ⟨rfl, by omega⟩)
        · have hH2 : itms (f i ++ outR f n r) ++ rest = itms (outs n d (l ++ [i])) ++ (itms (outR f n r) ++ rest) := by
            rw [hfi, if_neg hs, itms_app, List.append_assoc]
          rw [hH2]
          have hl1 : (l ++ [i]).length = m + 1 := by rw [List.length_append, hm]; rfl
          have ih := ih (itms (outR f n r) ++ rest) (l ++ [i])
          rw [hl1] at ih
          have hni : natI (l ++ [i]) = natI l ++ [(i : Int)] := by simp [natI]
          have hnl : (natI l).length = m := by rw [natI_len]; exact hm
          by_cases hmc : m = c'
          case' pos =>
            have hA : A' = natI l := by rw [← g4, List.take_of_length_le (by omega)]
            have e : lv m c' = .os 1 p40 m := if_pos hmc
            subst hmc
            rw [e]
            (repeat (first | refine VC.seq ?_ | refine VC.block ?_ | refine VC.kill ?_ | refine VC.skip ?_ | refine VC.exit ?_ | refine VC.regA ?_ | refine VC.condT ?_ | refine VC.condF ?_))
            refine VC.exG (fun q : Nat × List Int => ⟨inV [p0, p3, p13, p14] [.op 0 p3 0, .op 0 p4 0, vi n, vi i] .lf, mkB (gB kk (m + 1) q.1 n ++ [(p40, .cells (q.2.map vi))]) .lf, [p3, p2, p4], some ⟨kk, itms (outs n d (l ++ [i])) ++ (itms (outR f n r) ++ rest), true, false⟩⟩) (fun q => m + 1 ≤ q.1 ∧ q.1 ≤ n ∧ q.2.length = q.1 ∧ q.2.take (m + 1) = natI (l ++ [i])) ⟨(m + 1, natI l ++ [(i : Int)]), ⟨Nat.le_refl _, by simp only; omega, by simp [hnl], by rw [hni, List.take_of_length_le (by simp [hnl])]⟩, ?_⟩ ?_
            · rw [hA]
              have e2 : lv (m + 1) (m + 1) = .os 1 p40 (m + 1) := if_pos rfl
              simp only [gB, e2]
              (apply Go.Ab.V.G.weak; constructor <;> simp (config := {decide := true}) only [PT.Le, inV, mkB, PT.set, VSt.kill, VSt.adopt, VSt.alloc, PT.filt, PT.map, List.map_cons, List.map_nil, noref, norefB, deadB, deadV, nos, nm, nmL, nmB, nmE, Pa.eqb, cond_true, cond_false, Bool.not_true, Bool.not_false, Bool.and_true, Bool.true_and, nmL_vi, flV_len, flP_len, flV_nm, flV_ok, flV_pv, flP_map, drop_flP, drop_flV, putC_flV, eqV2, eqV3, bneT, bneF, decide_true, decide_false, frzL_vi, frzL_flV, nmE_ag, nmE_at, frzE_ag, frzE_at, ofAg_len, ofAt_len, atL_vi, nmL_map_p, frzL_map_p, okL_p, toPVs_p, repsZ, nmL_reps, putC_vi, get_flV0, get_flV1, Int.toNat_zero, Int.toNat_one, Int.reduceToNat, eqV_slice, eqV_ptr, eqV_func, nilS, nilP, nilF, nmL_append, true_or, or_true, and_self, true_and, and_true, Option.some.injEq, reduceCtorEq, false_or, or_false, VV.p.injEq, PV.at.injEq, Value.int.injEq, sl1, vi, bl1, vb, nilV, gcap, pi, List.cons_append, List.nil_append, List.map_append, vi])
              (all_goals first | rfl | omega | exact ⟨rfl, by omega⟩)
          case' neg =>
            have e : lv m c' = .ob 1 p40 0 m c' := if_neg hmc
            rw [e]
            (repeat (first | refine VC.seq ?_ | refine VC.block ?_ | refine VC.kill ?_ | refine VC.skip ?_ | refine VC.exit ?_ | refine VC.regA ?_ | refine VC.condT ?_ | refine VC.condF ?_))
            refine VC.exG (fun q : Nat × List Int => ⟨inV [p0, p3, p13, p14] [.op 0 p3 0, .op 0 p4 0, vi n, vi i] .lf, mkB (gB kk (m + 1) q.1 n ++ [(p40, .cells (q.2.map vi))]) .lf, [p3, p2, p4], some ⟨kk, itms (outs n d (l ++ [i])) ++ (itms (outR f n r) ++ rest), true, false⟩⟩) (fun q => m + 1 ≤ q.1 ∧ q.1 ≤ n ∧ q.2.length = q.1 ∧ q.2.take (m + 1) = natI (l ++ [i])) ⟨(c', A'.set m i), ⟨by simp only; omega, g2, by simp only [List.length_set]; exact g3, by rw [hni, ← g4]; exact take_set_succ _ _ _ (by omega)⟩, ?_⟩ ?_
            · by_cases hc1 : m + 1 = c'
              · subst hc1
                have e2 : lv (m + 1) (m + 1) = .os 1 p40 (m + 1) := if_pos rfl
                simp only [gB, e2]
                refine (G.obos (p := p3) (i := 0) (u := 1) (a := p40) (n := m + 1) (cs := [.ob 1 p40 0 (m + 1) (m + 1)]) rfl rfl).trans ?_
                simp only [VSt.obos, List.set_cons_zero]
                (apply Go.Ab.V.G.weak; constructor <;> simp (config := {decide := true}) only [PT.Le, inV, mkB, PT.set, VSt.kill, VSt.adopt, VSt.alloc, PT.filt, PT.map, List.map_cons, List.map_nil, noref, norefB, deadB, deadV, nos, nm, nmL, nmB, nmE, Pa.eqb, cond_true, cond_false, Bool.not_true, Bool.not_false, Bool.and_true, Bool.true_and, nmL_vi, flV_len, flP_len, flV_nm, flV_ok, flV_pv, flP_map, drop_flP, drop_flV, putC_flV, eqV2, eqV3, bneT, bneF, decide_true, decide_false, frzL_vi, frzL_flV, nmE_ag, nmE_at, frzE_ag, frzE_at, ofAg_len, ofAt_len, atL_vi, nmL_map_p, frzL_map_p, okL_p, toPVs_p, repsZ, nmL_reps, putC_vi, get_flV0, get_flV1, Int.toNat_zero, Int.toNat_one, Int.reduceToNat, eqV_slice, eqV_ptr, eqV_func, nilS, nilP, nilF, nmL_append, true_or, or_true, and_self, true_and, and_true, Option.some.injEq, reduceCtorEq, false_or, or_false, VV.p.injEq, PV.at.injEq, Value.int.injEq, sl1, vi, bl1, vb, nilV, gcap, pi, List.cons_append, List.nil_append, List.map_append, vi])
                (all_goals first | rfl | omega | exact ⟨rfl, by omega⟩)
              · have e : lv (m + 1) c' = .ob 1 p40 0 (m + 1) c' := if_neg hc1
                simp only [gB, e]
                (apply Go.Ab.V.G.weak; constructor <;> simp (config := {decide := true}) only [PT.Le, inV, mkB, PT.set, VSt.kill, VSt.adopt, VSt.alloc, PT.filt, PT.map, List.map_cons, List.map_nil, noref, norefB, deadB, deadV, nos, nm, nmL, nmB, nmE, Pa.eqb, cond_true, cond_false, Bool.not_true, Bool.not_false, Bool.and_true, Bool.true_and, nmL_vi, flV_len, flP_len, flV_nm, flV_ok, flV_pv, flP_map, drop_flP, drop_flV, putC_flV, eqV2, eqV3, bneT, bneF, decide_true, decide_false, frzL_vi, frzL_flV, nmE_ag, nmE_at, frzE_ag, frzE_at, ofAg_len, ofAt_len, atL_vi, nmL_map_p, frzL_map_p, okL_p, toPVs_p, repsZ, nmL_reps, putC_vi, get_flV0, get_flV1, Int.toNat_zero, Int.toNat_one, Int.reduceToNat, eqV_slice, eqV_ptr, eqV_func, nilS, nilP, nilF, nmL_append, true_or, or_true, and_self, true_and, and_true, Option.some.injEq, reduceCtorEq, false_or, or_false, VV.p.injEq, PV.at.injEq, Value.int.injEq, sl1, vi, bl1, vb, nilV, gcap, pi, List.cons_append, List.nil_append, List.map_append, vi])
                (all_goals first | rfl | omega | exact ⟨rfl, by omega⟩)
          all_goals
            rintro ⟨c2, A2⟩ ⟨q1, q2, q3, q4⟩
            simp only at q1 q2 q3 q4
            clear g1 g2 g3 g4
            simp only [gB, gcap, inV, PT.set, mkB, List.cons_append, List.nil_append]
            (repeat (first | refine VC.seq ?_ | refine VC.block ?_ | refine VC.kill ?_ | refine VC.skip ?_ | refine VC.exit ?_ | refine VC.regA ?_ | refine VC.condT ?_ | refine VC.condF ?_))
            refine VC.regCA ?_
            refine VO.moreA ?_
            refine VO.ycall (gB kk (m + 1) c2 n) [(p40, .cells (A2.map vi))] (inV [p0, p3, p13, p14] [.op 0 p3 0, .op 0 p4 0, vi n, vi i] .lf) rfl rfl (no_orc 86 (by decide)) (ih c2 A2 (by omega) q1 q2 q3 q4) rfl ?_ ?_ ?_ rfl rfl ?_
            · exact PT.Le.refl _
            · simp [inV, PT.set, PT.Le, vi]
            · simp [inV, PT.set, NmOk, nm, nmsL, gB, vi]
            rintro y B' rest' live (⟨rfl, rfl, rfl, c3, A3, t1, t2, t3, t4, rfl⟩ | ⟨rfl, rfl, rfl⟩)
            · simp only [gB, gcap, pi, inV, PT.set, mkB, VSt.put, List.cons_append, List.nil_append]
              refine VO.endA ?_
              (repeat (first | refine VC.seq ?_ | refine VC.block ?_ | refine VC.kill ?_ | refine VC.skip ?_ | refine VC.exit ?_ | refine VC.regA ?_ | refine VC.condT ?_ | refine VC.condF ?_))
              have hsub : ((m + 1 : Nat) : Int) - 1 = (m : Int) := by omega
              have t5 : A3.take m = natI l := by
                have : A3.take m = (A3.take (m + 1)).take m := by rw [List.take_take, Nat.min_eq_left (by omega)]
                rw [this, t4, hni, List.take_append_of_le_length (by omega), List.take_of_length_le (by omega)]
              have e4 : lv m c3 = .ob 1 p40 0 m c3 := if_neg (by omega)
              by_cases hc3 : m + 1 = c3
              case' pos =>
                have e3 : lv (m + 1) c3 = .os 1 p40 (m + 1) := if_pos hc3
                rw [e3]
                have e4 : lv m c3 = .ob 1 p40 0 m (m + 1) := by rw [e4, hc3]
                (repeat (first | refine VC.seq ?_ | refine VC.block ?_ | refine VC.kill ?_ | refine VC.skip ?_ | refine VC.exit ?_ | refine VC.regA ?_ | refine VC.condT ?_ | refine VC.condF ?_))
                ((try (apply VC.regU; · ((simp (config := {decide := false, maxSteps := 1000000}) (disch := omega) only [vev_call, putC_c0, putC_n0, putC_cs, ble0, List.getElem?_cons_zero, List.getElem?_cons_succ, runU, isCall, wantV, vev, evV, ofVal, ofAtom, atomB, cond_true, cond_false, PT.get, PT.set, PT.filt, PT.map, Option.getD_some, Option.getD_none, ret1V, ret1X, v_ld, v_ias, v_iad, v_fad, v_slsl, v_slarr, v_st, v_app, v_cpy, v_clr, v_len, v_look, v_mset, elsV, partV, newV, free, atV, atI, atL, toVal, cellsV, okV, VSt.put, VSt.kill, VSt.alloc, VSt.frz, VSt.adopt, noref, norefB, deadB, deadV, nos, nm, nmL, nmB, nmE, Pa.eqb, Bool.not_false, Bool.not_true, Bool.and_true, Bool.true_and, Bool.false_and, Bool.and_false, bin, intOps, intBin, cvt, un, goInt, bndsV, bndV, Option.map_some, Option.map_none, List.map_cons, List.map_nil, Int.toNat_natCast, Nat.mul_one, Nat.zero_add, beq_true, beq_false, beq_self_eq_true, List.length_map, List.length_cons, List.length_nil, List.length_append, fillV, pEvV, repsV, List.append_nil, List.nil_append, if_pos, if_neg, reduceIte, List.getElem?_map, List.getElem?_drop, Nat.add_zero, List.getElem?_eq_getElem, Go.IntWalk.i64_in, wrap_u64, tmod_pos, eq_self, true_and, and_true, and_self, List.all_cons, List.all_nil, nmL_vi, flV_len, flP_len, flV_nm, flV_ok, flV_pv, flP_map, drop_flP, drop_flV, putC_flV, eqV2, eqV3, bneT, bneF, decide_true, decide_false, frzL_vi, frzL_flV, nmE_ag, nmE_at, frzE_ag, frzE_at, ofAg_len, ofAt_len, atL_vi, nmL_map_p, frzL_map_p, okL_p, toPVs_p, repsZ, nmL_reps, putC_vi, get_flV0, get_flV1, Int.toNat_zero, Int.toNat_one, Int.reduceToNat, eqV_slice, eqV_ptr, eqV_func, nilS, nilP, nilF, nmL_append, okL_vi, toPVs_vi, toPVs, toPV, frzV, frzL, frzB, resVV, vi, vb, nilV, sl1, bl1, pi, foldV, max2, min2, max_eq, min_eq, Int.tdiv_eq_ediv_of_nonneg, Int.cast_ofNat_Int, Option.isSome_none, Option.isSome_some, Option.isNone_none, Option.isNone_some, and_false, false_and, sl2, sl1P, slP, min_cast, take_map_pi, map_pi, Nat.sub_zero, Nat.zero_mul, List.length_take, decide_eq_true, decide_eq_false, Bool.true_eq_false, Bool.false_eq_true, beqT, beqF, ibeq, ibne, List.take_zero, List.take_succ_cons, List.drop_zero, List.drop_succ_cons, List.drop_nil, List.take_nil, List.cons_append, Bool.not_true, Bool.not_false, hsub]); rfl))); (repeat (first | refine VC.seq ?_ | refine VC.block ?_ | refine VC.kill ?_ | refine VC.skip ?_ | refine VC.exit ?_ | refine VC.regA ?_ | refine VC.condT ?_ | refine VC.condF ?_)))
              case' neg =>
                have e3 : lv (m + 1) c3 = .ob 1 p40 0 (m + 1) c3 := if_neg hc3
                rw [e3]
                (repeat (first | refine VC.seq ?_ | refine VC.block ?_ | refine VC.kill ?_ | refine VC.skip ?_ | refine VC.exit ?_ | refine VC.regA ?_ | refine VC.condT ?_ | refine VC.condF ?_))
                ((try (apply VC.regU; · ((simp (config := {decide := false, maxSteps := 1000000}) (disch := omega) only [vev_call, putC_c0, putC_n0, putC_cs, ble0, List.getElem?_cons_zero, List.getElem?_cons_succ, runU, isCall, wantV, vev, evV, ofVal, ofAtom, atomB, cond_true, cond_false, PT.get, PT.set, PT.filt, PT.map, Option.getD_some, Option.getD_none, ret1V, ret1X, v_ld, v_ias, v_iad, v_fad, v_slsl, v_slarr, v_st, v_app, v_cpy, v_clr, v_len, v_look, v_mset, elsV, partV, newV, free, atV, atI, atL, toVal, cellsV, okV, VSt.put, VSt.kill, VSt.alloc, VSt.frz, VSt.adopt, noref, norefB, deadB, deadV, nos, nm, nmL, nmB, nmE, Pa.eqb, Bool.not_false, Bool.not_true, Bool.and_true, Bool.true_and, Bool.false_and, Bool.and_false, bin, intOps, intBin, cvt, un, goInt, bndsV, bndV, Option.map_some, Option.map_none, List.map_cons, List.map_nil, Int.toNat_natCast, Nat.mul_one, Nat.zero_add, beq_true, beq_false, beq_self_eq_true, List.length_map, List.length_cons, List.length_nil, List.length_append, fillV, pEvV, repsV, List.append_nil, List.nil_append, if_pos, if_neg, reduceIte, List.getElem?_map, List.getElem?_drop, Nat.add_zero, List.getElem?_eq_getElem, Go.IntWalk.i64_in, wrap_u64, tmod_pos, eq_self, true_and, and_true, and_self, List.all_cons, List.all_nil, nmL_vi, flV_len, flP_len, flV_nm, flV_ok, flV_pv, flP_map, drop_flP, drop_flV, putC_flV, eqV2, eqV3, bneT, bneF, decide_true, decide_false, frzL_vi, frzL_flV, nmE_ag, nmE_at, frzE_ag, frzE_at, ofAg_len, ofAt_len, atL_vi, nmL_map_p, frzL_map_p, okL_p, toPVs_p, repsZ, nmL_reps, putC_vi, get_flV0, get_flV1, Int.toNat_zero, Int.toNat_one, Int.reduceToNat, eqV_slice, eqV_ptr, eqV_func, nilS, nilP, nilF, nmL_append, okL_vi, toPVs_vi, toPVs, toPV, frzV, frzL, frzB, resVV, vi, vb, nilV, sl1, bl1, pi, foldV, max2, min2, max_eq, min_eq, Int.tdiv_eq_ediv_of_nonneg, Int.cast_ofNat_Int, Option.isSome_none, Option.isSome_some, Option.isNone_none, Option.isNone_some, and_false, false_and, sl2, sl1P, slP, min_cast, take_map_pi, map_pi, Nat.sub_zero, Nat.zero_mul, List.length_take, decide_eq_true, decide_eq_false, Bool.true_eq_false, Bool.false_eq_true, beqT, beqF, ibeq, ibne, List.take_zero, List.take_succ_cons, List.drop_zero, List.drop_succ_cons, List.drop_nil, List.take_nil, List.cons_append, Bool.not_true, Bool.not_false, hsub]); rfl))); (repeat (first | refine VC.seq ?_ | refine VC.block ?_ | refine VC.kill ?_ | refine VC.skip ?_ | refine VC.exit ?_ | refine VC.regA ?_ | refine VC.condT ?_ | refine VC.condF ?_)))
              all_goals
                try simp only [hsub, Int.toNat_natCast]
                refine ⟨_, (i + 1, c3, A3), ?_, ⟨rfl, by simp only; omega, by simp only; omega, t2, t3, t5⟩, ?_⟩
                · simp only; omega
                · rw [← hr2]
                  simp only [e4]
                  (apply Go.Ab.V.G.weak; constructor <;> simp (config := {decide := true}) only [PT.Le, inV, mkB, PT.set, VSt.kill, VSt.adopt, VSt.alloc, PT.filt, PT.map, List.map_cons, List.map_nil, noref, norefB, deadB, deadV, nos, nm, nmL, nmB, nmE, Pa.eqb, cond_true, cond_false, Bool.not_true, Bool.not_false, Bool.and_true, Bool.true_and, nmL_vi, flV_len, flP_len, flV_nm, flV_ok, flV_pv, flP_map, drop_flP, drop_flV, putC_flV, eqV2, eqV3, bneT, bneF, decide_true, decide_false, frzL_vi, frzL_flV, nmE_ag, nmE_at, frzE_ag, frzE_at, ofAg_len, ofAt_len, atL_vi, nmL_map_p, frzL_map_p, okL_p, toPVs_p, repsZ, nmL_reps, putC_vi, get_flV0, get_flV1, Int.toNat_zero, Int.toNat_one, Int.reduceToNat, eqV_slice, eqV_ptr, eqV_func, nilS, nilP, nilF, nmL_append, true_or, or_true, and_self, true_and, and_true, Option.some.injEq, reduceCtorEq, false_or, or_false, VV.p.injEq, PV.at.injEq, Value.int.injEq, sl1, vi, bl1, vb, nilV, gcap, pi, vi])
                  (all_goals first | rfl | omega | exact ⟨rfl, by omega⟩)
            · simp only [inV, PT.set, mkB, VSt.put]
              refine VO.endA ?_
              (repeat (first | refine VC.seq ?_ | refine VC.block ?_ | refine VC.kill ?_ | refine VC.skip ?_ | refine VC.exit ?_ | refine VC.regA ?_ | refine VC.condT ?_ | refine VC.condF ?_))
              exact VC.ret ⟨_, _, [], rest', false, G.refl, rfl, rfl, .inr ⟨rfl, rfl, rfl⟩, trivial, rfl, rfl⟩
      · have hin : n - i = 0 := by omega
        clear h'
        rw [hin]
        (repeat (first | refine VC.seq ?_ | refine VC.block ?_ | refine VC.kill ?_ | refine VC.skip ?_ | refine VC.exit ?_ | refine VC.regA ?_ | refine VC.condT ?_ | refine VC.condF ?_))
        refine VC.ret ⟨_, _, gB kk m c' n ++ [(p40, .cells (A'.map vi))], rest, true, G.refl, rfl, rfl, .inl ⟨rfl, rfl, rfl, c', A', g1, g2, g3, g4, rfl⟩, ?_, rfl, rfl⟩
        simp [gB, gcap, mkB, PT.set, PT.Le, pi]
theorem grow_ok (kk n : Nat) (hn : n ≤ 7) : ∀ d, GrowAt kk n d
  | 0 => grow_0 kk n
  | d + 1 => grow_s kk n d hn (grow_ok kk n hn d)
set_option maxHeartbeats 4000000 in
theorem orders1_ok (n : Nat) (hn : n ≤ 7) : VIter cfg 85 [] [.p (.fp 0 [pi n])] false (itms (outs n n [])) := by
  refine VIter.mk (fn := a85) rfl rfl rfl fun kk => ?_
  have ih := grow_ok kk n hn n [] [] 0 [] (by simp) (Nat.le_refl _) (Nat.zero_le _) rfl rfl
  rw [List.append_nil] at ih
  simp only [a85, inV, PT.set, List.nil_append, List.cons_append]
  (repeat (first | refine VC.seq ?_ | refine VC.block ?_ | refine VC.kill ?_ | refine VC.skip ?_ | refine VC.exit ?_ | refine VC.regA ?_ | refine VC.condT ?_ | refine VC.condF ?_))
  refine VC.ghost (S' := ⟨inV [p4] [.op 0 p4 0] .lf, mkB (gB kk 0 0 n ++ [(p40, .cells (([] : List Int).map vi))]) .lf, [], some ⟨kk, itms (outs n n []), true, false⟩⟩) ?_ ?_
  · refine G.adoptBA (p := p3) (cs := [.p (.at (.slice none 0 0))]) 0 1 p40 ?_
    have e2 : lv 0 0 = .os 1 p40 0 := if_pos rfl
    simp only [gB, e2, gcap, pi, VSt.adoptB, List.set_cons_zero]
    (apply Go.Ab.V.G.weak; constructor <;> simp (config := {decide := true}) only [PT.Le, inV, mkB, PT.set, VSt.kill, VSt.adopt, VSt.alloc, PT.filt, PT.map, List.map_cons, List.map_nil, noref, norefB, deadB, deadV, nos, nm, nmL, nmB, nmE, Pa.eqb, cond_true, cond_false, Bool.not_true, Bool.not_false, Bool.and_true, Bool.true_and, nmL_vi, flV_len, flP_len, flV_nm, flV_ok, flV_pv, flP_map, drop_flP, drop_flV, putC_flV, eqV2, eqV3, bneT, bneF, decide_true, decide_false, frzL_vi, frzL_flV, nmE_ag, nmE_at, frzE_ag, frzE_at, ofAg_len, ofAt_len, atL_vi, nmL_map_p, frzL_map_p, okL_p, toPVs_p, repsZ, nmL_reps, putC_vi, get_flV0, get_flV1, Int.toNat_zero, Int.toNat_one, Int.reduceToNat, eqV_slice, eqV_ptr, eqV_func, nilS, nilP, nilF, nmL_append, true_or, or_true, and_self, true_and, and_true, Option.some.injEq, reduceCtorEq, false_or, or_false, VV.p.injEq, PV.at.injEq, Value.int.injEq, sl1, vi, bl1, vb, nilV, List.cons_append, List.nil_append])
    (all_goals first | rfl | omega | exact ⟨rfl, by omega⟩)
  simp only [gB, gcap, pi, inV, PT.set, mkB, List.cons_append, List.nil_append]
  refine VC.regCA ?_
  refine VO.moreA ?_
  refine VO.ycall (gB kk 0 0 n) [(p40, .cells (([] : List Int).map vi))] .lf rfl rfl (no_orc 86 (by decide)) ih rfl ?_ trivial trivial rfl rfl ?_
  · exact PT.Le.refl _
  rintro y B' rest' live (⟨rfl, rfl, rfl, c3, A3, t1, t2, t3, t4, rfl⟩ | ⟨rfl, rfl, rfl⟩)
  · simp only [gB, gcap, pi, inV, PT.set, mkB, VSt.put, List.cons_append, List.nil_append]
    refine VO.endA ?_
    (repeat (first | refine VC.seq ?_ | refine VC.block ?_ | refine VC.kill ?_ | refine VC.skip ?_ | refine VC.exit ?_ | refine VC.regA ?_ | refine VC.condT ?_ | refine VC.condF ?_))
    exact ⟨rfl, _, _, rfl, .inr ⟨rfl, trivial⟩⟩
  · simp only [inV, PT.set, mkB, VSt.put]
    refine VO.endA ?_
    (repeat (first | refine VC.seq ?_ | refine VC.block ?_ | refine VC.kill ?_ | refine VC.skip ?_ | refine VC.exit ?_ | refine VC.regA ?_ | refine VC.condT ?_ | refine VC.condF ?_))
    exact ⟨rfl, _, _, rfl, .inl rfl⟩
set_option maxHeartbeats 4000000 in
theorem orders_ok (n : Nat) : VCall cfg 81 [vi n] [] [] (.clos 85 [] [.p (.fp 0 [pi n])]) [] := by
  (refine VCall.mk (fn := a81) rfl rfl rfl ?_; simp only [a81, inV, mkB, nmsL, PT.set])
  (repeat (first | refine VC.seq ?_ | refine VC.block ?_ | refine VC.kill ?_ | refine VC.skip ?_ | refine VC.exit ?_ | refine VC.regA ?_ | refine VC.condT ?_ | refine VC.condF ?_))
  exact VC.ret (Fin.frzA p1 (Fin.A rfl))
end Go.Ab.Dues

namespace Go.Ab.Dues
/-! ### What the list of all orders is -/
theorem outR_mem {f : Nat → List (List Nat)} {n : Nat} {x : List Nat} : ∀ {r : Nat}, r ≤ n → x ∈ outR f n r → ∃ s, s < n ∧ x ∈ f s
  | 0, _, h => by cases h
  | r + 1, hr, h => by
    rcases List.mem_append.1 h with h | h
    · exact ⟨n - (r + 1), by omega, h⟩
    · exact outR_mem (by omega) h
theorem outs_mem {n : Nat} : ∀ {d : Nat} {l x : List Nat}, (∀ s ∈ l, s < n) → x ∈ outs n d l → x.length = l.length + d ∧ ∀ s ∈ x, s < n
  | 0, l, x, hl, h => by
    rw [show outs n 0 l = [l] from rfl, List.mem_singleton] at h
    subst h; exact ⟨rfl, hl⟩
  | d + 1, l, x, hl, h => by
    obtain ⟨s, hs, h⟩ := outR_mem (Nat.le_refl n) h
    split at h
    · cases h
    · have := outs_mem (l := l ++ [s]) (fun t ht => by
        rcases List.mem_append.1 ht with ht | ht
        · exact hl t ht
        · rw [List.mem_singleton] at ht; omega) h
      rw [List.length_append, List.length_singleton] at this
      exact ⟨by omega, this.2⟩
theorem outR_len {f : Nat → List (List Nat)} {n b : Nat} (hf : ∀ s, (f s).length ≤ b) : ∀ r, (outR f n r).length ≤ r * b
  | 0 => Nat.zero_le _
  | r + 1 => by
    have := outR_len (n := n) hf r
    have := hf (n - (r + 1))
    rw [show outR f n (r + 1) = f (n - (r + 1)) ++ outR f n r from rfl, List.length_append, Nat.add_mul]
    omega
theorem outs_len (n : Nat) : ∀ (d : Nat) (l : List Nat), (outs n d l).length ≤ n ^ d
  | 0, l => Nat.le_refl _
  | d + 1, l => by
    rw [Nat.pow_succ, Nat.mul_comm]
    refine outR_len (fun s => ?_) n
    split
    · exact Nat.zero_le _
    · exact outs_len n d _
theorem outs_len7 {n : Nat} (h : n ≤ 7) : (outs n n []).length ≤ 823543 :=
  Nat.le_trans (outs_len n n []) (Nat.le_trans (Nat.pow_le_pow_left h n) (Nat.pow_le_pow_right (by decide) h))
theorem outs_pos {n : Nat} (h : n ≤ 7) : 0 < (outs n n []).length := by
  have : n = 0 ∨ n = 1 ∨ n = 2 ∨ n = 3 ∨ n = 4 ∨ n = 5 ∨ n = 6 ∨ n = 7 := by omega
  have key : ∀ {l : List (List Nat)}, l.isEmpty = false → 0 < l.length := by
    intro l hl
    cases l with
    | nil => cases hl
    | cons => simp
  rcases this with rfl | rfl | rfl | rfl | rfl | rfl | rfl | rfl <;> exact key rfl
end Go.Ab.Dues

namespace Go.Ab.Dues
set_option maxRecDepth 1000000
def rIns (l : List Nat) (s : Nat) : List (List Nat) := (List.range (s + 1)).map fun a => l.take a ++ [s] ++ l.drop a
def rOrd : Nat → List (List Nat)
  | 0 => [[]]
  | s + 1 => (rOrd s).flatMap fun l => rIns l s
def codeL (l : List Nat) : Nat := l.foldl (fun a s => a * 8 + s + 1) 0
def decL : Nat → Nat → List Nat → List Nat
  | 0, _, acc => acc
  | f + 1, x, acc => if x = 0 then acc else decL f (x / 8) ((x % 8 - 1) :: acc)
def chkO (n : Nat) : Bool := ((outs n n []).map codeL).isPerm ((rOrd n).map codeL) && ((outs n n []).map fun l => decL 7 (codeL l) []) == outs n n [] && ((rOrd n).map fun l => decL 7 (codeL l) []) == rOrd n
theorem chkO_perm {n : Nat} (h : chkO n = true) : (outs n n []).Perm (rOrd n) := by
  unfold chkO at h
  simp only [Bool.and_eq_true, beq_iff_eq] at h
  obtain ⟨⟨h1, h2⟩, h3⟩ := h
  have := (List.isPerm_iff.1 h1).map fun x => decL 7 x []
  rw [List.map_map, List.map_map] at this
  exact (h2 ▸ h3 ▸ this : _)
theorem chk6 : chkO 6 = true := by decide +kernel
theorem outs_perm {n : Nat} (h : n ≤ 6) : (outs n n []).Perm (rOrd n) := by
  have : n = 0 ∨ n = 1 ∨ n = 2 ∨ n = 3 ∨ n = 4 ∨ n = 5 ∨ n = 6 := by omega
  rcases this with rfl | rfl | rfl | rfl | rfl | rfl | rfl
  · exact chkO_perm (by decide +kernel)
  · exact chkO_perm (by decide +kernel)
  · exact chkO_perm (by decide +kernel)
  · exact chkO_perm (by decide +kernel)
  · exact chkO_perm (by decide +kernel)
  · exact chkO_perm (by decide +kernel)
  · exact chkO_perm chk6
end Go.Ab.Dues

namespace Go.Ab.Dues
open Go.Ab.V
set_option maxRecDepth 100000
set_option maxHeartbeats 8000000 in
theorem byOrderN_ok (c : Can) (h : okC c) (M : List (Nat × Int)) (hM : okM c M) (l : List Nat) (hl : l.length = c.ships.length) (hm : ∀ s ∈ l, s < c.ships.length) :
    VCall cfg 58 [.op 0 p16 0, .os 1 p40 l.length] [(p16, .cells (flC c (needK c c.ships.length) p14)), (p14, .map (esM M)), (p40, .cells ((natI l).map vi))] [] (sl1 (byO c l)) [(p16, .cells (flC c (needK c c.ships.length) p14)), (p14, .map (esM (boF c M l).2.2)), (p40, .cells ((natI l).map vi))] := by
  have h7 := h.s7
  have kc := cost_ok c h
  have hcb := costS_bd h
  rw [← boF_out c M l]
  have hinv := fun i => boF_inv (c := c) (m := c.ships.length) (l.take i) (List.replicate l.length 0, 0, M) (fun s hs => hm s (List.mem_of_mem_take hs)) (Nat.pow_pos (by decide)) hM
  have hst := fun i (hi : i < l.length) => fold_take (boStep c) (List.replicate l.length 0, 0, M) l i hi
  have hend : boF c M l = (l.take l.length).foldl (boStep c) (List.replicate l.length 0, 0, M) := by rw [List.take_length]; rfl
  have h0 : (l.take 0).foldl (boStep c) (List.replicate l.length 0, 0, M) = (List.replicate l.length 0, 0, M) := rfl
  rw [hend]
  generalize hG : (fun i => (l.take i).foldl (boStep c) (List.replicate l.length 0, 0, M)) = G
  have hG' : ∀ i, (l.take i).foldl (boStep c) (List.replicate l.length 0, 0, M) = G i := fun i => by rw [← hG]
  simp only [hG'] at hinv hst h0 ⊢
  clear hG hG' hend
  have hnm := fl_nm c (needK c c.ships.length) p14
  have hfz := fl_frz c (needK c c.ships.length) p14
  generalize flC c (needK c c.ships.length) p14 = FL at *
  obtain ⟨L, hLL⟩ : ∃ L, natI l = L := ⟨_, rfl⟩
  have hlL : L.length = l.length := by rw [← hLL]; exact natI_len l
  have hgL : ∀ i (h : i < L.length) (h2 : i < l.length), L[i] = ((l[i] : Nat) : Int) := fun i h h2 => by subst hLL; exact natI_get l i h
  rw [hLL, ← hlL]
  clear hLL
  refine VCall.mk (fn := a58) rfl rfl rfl ?_
  simp only [a58, inV, mkB, nmsL, PT.set]
  (repeat (first | refine VC.seq ?_ | refine VC.block ?_ | refine VC.kill ?_ | refine VC.skip ?_ | refine VC.exit ?_ | refine VC.regA ?_ | refine VC.condT ?_ | refine VC.condF ?_))
  refine VC.loopG (fun (i : Nat) => ⟨inV [p0, p5, p6, p12, p13, p14] [.op 0 p16 0, .os 1 p11 L.length, vi ((G i).2.1 : Nat), .os 1 p40 L.length, vi L.length, vi i] .lf, mkB [(p16, .cells FL), (p14, .map (esM (G i).2.2)), (p11, .cells ((G i).1.map vi)), (p40, .cells (L.map vi))] .lf, [p16, p14, p40], none⟩) (fun n i => n = L.length - i ∧ i ≤ L.length) (x := 0) ?_ ⟨rfl, Nat.zero_le _⟩ ?_
  · rw [h0, ← hlL]
    (apply Go.Ab.V.G.weak; constructor <;> simp (config := {decide := true}) only [PT.Le, inV, mkB, PT.set, VSt.kill, VSt.adopt, VSt.alloc, PT.filt, PT.map, List.map_cons, List.map_nil, noref, norefB, deadB, deadV, nos, nm, nmL, nmB, nmE, Pa.eqb, cond_true, cond_false, Bool.not_true, Bool.not_false, Bool.and_true, Bool.true_and, nmL_vi, flV_len, flP_len, flV_nm, flV_ok, flV_pv, flP_map, drop_flP, drop_flV, putC_flV, eqV2, eqV3, bneT, bneF, decide_true, decide_false, frzL_vi, frzL_flV, nmE_ag, nmE_at, frzE_ag, frzE_at, ofAg_len, ofAt_len, atL_vi, nmL_map_p, frzL_map_p, okL_p, toPVs_p, repsZ, nmL_reps, putC_vi, get_flV0, get_flV1, Int.toNat_zero, Int.toNat_one, Int.reduceToNat, eqV_slice, eqV_ptr, eqV_func, nilS, nilP, nilF, nmL_append, true_or, or_true, and_self, true_and, and_true, Option.some.injEq, reduceCtorEq, false_or, or_false, VV.p.injEq, PV.at.injEq, Value.int.injEq, sl1, vi, bl1, vb, nilV, sl1, hnm, es_nm])
    (all_goals first | rfl | omega | exact ⟨rfl, by omega⟩)
  rintro n i ⟨hn, hi⟩
  simp only [inV, PT.set, mkB]
  obtain ⟨i1, i2, i3⟩ := hinv i
  have hst := hst i
  have hend : i = L.length → G L.length = G i := fun e => by rw [e]
  generalize hq : G i = q at *
  obtain ⟨out, b, M'⟩ := q
  simp only at i1 i2 i3 hst
  rw [List.length_replicate] at i1
  have hb7 : b < 128 := Nat.lt_of_lt_of_le i2 (show 2 ^ c.ships.length ≤ 2 ^ 7 from Nat.pow_le_pow_right (by decide) h7)
  (repeat (first | refine VC.seq ?_ | refine VC.block ?_ | refine VC.kill ?_ | refine VC.skip ?_ | refine VC.exit ?_ | refine VC.regA ?_ | refine VC.condT ?_ | refine VC.condF ?_))
  refine VC.condA ?_ ?_ <;> intro h' <;> (simp only [decide_eq_true_eq, decide_eq_false_iff_not, bne_iff_ne, ne_eq, bne_eq_false_iff_eq, beq_iff_eq, beq_eq_false_iff_ne, Bool.not_eq_true', Bool.not_eq_false', Bool.and_eq_true, Bool.or_eq_true, Int.natCast_inj] at h')
  · have h' : i < L.length := by omega
    have h'' : i < l.length := by omega
    have hst := hst h''
    have hg := hgL i h' h''
    have hsm := hm _ (List.getElem_mem h'')
    generalize hs : l[i] = s at *
    have hbs : b ||| 2 ^ s < 2 ^ c.ships.length := Nat.or_lt_two_pow i2 (Nat.pow_lt_pow_right (by decide) hsm)
    have k1 := kc M' i3 (b ||| 2 ^ s) hbs
    have k2 := kc (memo c M' (b ||| 2 ^ s)) (okM_memo i3 _) b i2
    have hc1 := hcb (b ||| 2 ^ s)
    have hc2 := hcb b
    have hp7 : 2 ^ s < 128 := Nat.lt_of_lt_of_le (Nat.pow_lt_pow_right (by decide) hsm) (show 2 ^ c.ships.length ≤ 2 ^ 7 from Nat.pow_le_pow_right (by decide) h7)
    have hor := or_i64 (a := b) (b := 2 ^ s) (by omega) (by omega)
    have hmod : (s : Int) % 18446744073709551616 = (s : Int) := by omega
    have hsh := shl_one (n := s) (by omega)
    have hshw := shl_w (q := s) (by omega)
    have hstep : boStep c (out, b, M') s = (out.set s (costS c (b ||| 2 ^ s) - costS c b), b ||| 2 ^ s, memo c (memo c M' (b ||| 2 ^ s)) b) := rfl
    rw [hstep] at hst
    have hpv := putC_vi out s (costS c (b ||| 2 ^ s) - costS c b) (by omega)
    have hse : s < out.length := by omega
    generalize costS c (b ||| 2 ^ s) = x1 at *
    generalize costS c b = x2 at *
    generalize hM2 : memo c (memo c M' (b ||| 2 ^ s)) b = M2 at *
    generalize memo c M' (b ||| 2 ^ s) = M1 at *
    have e1 := es_nm M'
    generalize esM M' = E0 at *
    have e2 := es_nm M1
    generalize esM M1 = E1 at *
    generalize b ||| 2 ^ s = b2 at *
    generalize 2 ^ s = w at *
    (repeat (first | refine VC.seq ?_ | refine VC.block ?_ | refine VC.kill ?_ | refine VC.skip ?_ | refine VC.exit ?_ | refine VC.regA ?_ | refine VC.condT ?_ | refine VC.condF ?_))
    simp only [hg]
    apply VC.regC
    · (simp (config := {decide := false, maxSteps := 1000000}) (disch := omega) only [vev_call, putC_c0, putC_n0, putC_cs, ble0, List.getElem?_cons_zero, List.getElem?_cons_succ, runU, isCall, wantV, vev, evV, ofVal, ofAtom, atomB, cond_true, cond_false, PT.get, PT.set, PT.filt, PT.map, Option.getD_some, Option.getD_none, ret1V, ret1X, v_ld, v_ias, v_iad, v_fad, v_slsl, v_slarr, v_st, v_app, v_cpy, v_clr, v_len, v_look, v_mset, elsV, partV, newV, free, atV, atI, atL, toVal, cellsV, okV, VSt.put, VSt.kill, VSt.alloc, VSt.frz, VSt.adopt, noref, norefB, deadB, deadV, nos, nm, nmL, nmB, nmE, Pa.eqb, Bool.not_false, Bool.not_true, Bool.and_true, Bool.true_and, Bool.false_and, Bool.and_false, bin, intOps, intBin, cvt, un, goInt, bndsV, bndV, Option.map_some, Option.map_none, List.map_cons, List.map_nil, Int.toNat_natCast, Nat.mul_one, Nat.zero_add, beq_true, beq_false, beq_self_eq_true, List.length_map, List.length_cons, List.length_nil, List.length_append, fillV, pEvV, repsV, List.append_nil, List.nil_append, if_pos, if_neg, reduceIte, List.getElem?_map, List.getElem?_drop, Nat.add_zero, List.getElem?_eq_getElem, Go.IntWalk.i64_in, wrap_u64, tmod_pos, eq_self, true_and, and_true, and_self, List.all_cons, List.all_nil, nmL_vi, flV_len, flP_len, flV_nm, flV_ok, flV_pv, flP_map, drop_flP, drop_flV, putC_flV, eqV2, eqV3, bneT, bneF, decide_true, decide_false, frzL_vi, frzL_flV, nmE_ag, nmE_at, frzE_ag, frzE_at, ofAg_len, ofAt_len, atL_vi, nmL_map_p, frzL_map_p, okL_p, toPVs_p, repsZ, nmL_reps, putC_vi, get_flV0, get_flV1, Int.toNat_zero, Int.toNat_one, Int.reduceToNat, eqV_slice, eqV_ptr, eqV_func, nilS, nilP, nilF, nmL_append, okL_vi, toPVs_vi, toPVs, toPV, frzV, frzL, frzB, resVV, vi, vb, nilV, sl1, bl1, pi, foldV, max2, min2, max_eq, min_eq, Int.tdiv_eq_ediv_of_nonneg, Int.cast_ofNat_Int, Option.isSome_none, Option.isSome_some, Option.isNone_none, Option.isNone_some, and_false, false_and, sl2, sl1P, slP, min_cast, take_map_pi, map_pi, Nat.sub_zero, Nat.zero_mul, List.length_take, decide_eq_true, decide_eq_false, Bool.true_eq_false, Bool.false_eq_true, beqT, beqF, ibeq, ibne, List.take_zero, List.take_succ_cons, List.drop_zero, List.drop_succ_cons, List.drop_nil, List.take_nil, List.cons_append, Bool.not_true, Bool.not_false, hmod, hsh, hor])
      rfl
    refine VO.call [] [(p16, .cells FL), (p14, .map E0)] (mkB [(p11, .cells (out.map vi)), (p40, .cells (L.map vi))] .lf) rfl rfl (no_orc 68 (by decide)) k1 trivial ?_ ?_ rfl rfl rfl rfl rfl rfl rfl ?_
    · simp [mkB, PT.set, PT.Le, VSt.kill]
    · simp [mkB, PT.set, PT.Le, VSt.kill]
    (simp only [filtN, filtNB, mkB, PT.set, VSt.put, PT.filt, noref, norefB, nos, nm, nmL, nmB, nmL_vi, nmL_map_p, nmE_ag, flV_nm, List.nil_append, List.append_nil, Pa.eqb, cond_true, cond_false, Bool.and_true, Bool.not_false, Bool.not_true])
    refine VO.moreA ?_
    refine VO.call [] [(p16, .cells FL), (p14, .map E1)] (mkB [(p11, .cells (out.map vi)), (p40, .cells (L.map vi))] .lf) rfl rfl (no_orc 68 (by decide)) k2 trivial ?_ ?_ rfl rfl rfl rfl rfl rfl rfl ?_
    · simp [mkB, PT.set, PT.Le, VSt.kill]
    · simp [mkB, PT.set, PT.Le, VSt.kill]
    (simp only [filtN, filtNB, mkB, PT.set, VSt.put, PT.filt, noref, norefB, nos, nm, nmL, nmB, nmL_vi, nmL_map_p, nmE_ag, flV_nm, List.nil_append, List.append_nil, Pa.eqb, cond_true, cond_false, Bool.and_true, Bool.not_false, Bool.not_true])
    have hlo : out.length = L.length := by omega
    refine VO.endA ?_
    (repeat (first | refine VC.seq ?_ | refine VC.block ?_ | refine VC.kill ?_ | refine VC.skip ?_ | refine VC.exit ?_ | refine VC.regA ?_ | refine VC.condT ?_ | refine VC.condF ?_))
    ((try (apply VC.regU; · ((simp (config := {decide := false, maxSteps := 1000000}) (disch := omega) only [vev_call, putC_c0, putC_n0, putC_cs, ble0, List.getElem?_cons_zero, List.getElem?_cons_succ, runU, isCall, wantV, vev, evV, ofVal, ofAtom, atomB, cond_true, cond_false, PT.get, PT.set, PT.filt, PT.map, Option.getD_some, Option.getD_none, ret1V, ret1X, v_ld, v_ias, v_iad, v_fad, v_slsl, v_slarr, v_st, v_app, v_cpy, v_clr, v_len, v_look, v_mset, elsV, partV, newV, free, atV, atI, atL, toVal, cellsV, okV, VSt.put, VSt.kill, VSt.alloc, VSt.frz, VSt.adopt, noref, norefB, deadB, deadV, nos, nm, nmL, nmB, nmE, Pa.eqb, Bool.not_false, Bool.not_true, Bool.and_true, Bool.true_and, Bool.false_and, Bool.and_false, bin, intOps, intBin, cvt, un, goInt, bndsV, bndV, Option.map_some, Option.map_none, List.map_cons, List.map_nil, Int.toNat_natCast, Nat.mul_one, Nat.zero_add, beq_true, beq_false, beq_self_eq_true, List.length_map, List.length_cons, List.length_nil, List.length_append, fillV, pEvV, repsV, List.append_nil, List.nil_append, if_pos, if_neg, reduceIte, List.getElem?_map, List.getElem?_drop, Nat.add_zero, List.getElem?_eq_getElem, Go.IntWalk.i64_in, wrap_u64, tmod_pos, eq_self, true_and, and_true, and_self, List.all_cons, List.all_nil, nmL_vi, flV_len, flP_len, flV_nm, flV_ok, flV_pv, flP_map, drop_flP, drop_flV, putC_flV, eqV2, eqV3, bneT, bneF, decide_true, decide_false, frzL_vi, frzL_flV, nmE_ag, nmE_at, frzE_ag, frzE_at, ofAg_len, ofAt_len, atL_vi, nmL_map_p, frzL_map_p, okL_p, toPVs_p, repsZ, nmL_reps, putC_vi, get_flV0, get_flV1, Int.toNat_zero, Int.toNat_one, Int.reduceToNat, eqV_slice, eqV_ptr, eqV_func, nilS, nilP, nilF, nmL_append, okL_vi, toPVs_vi, toPVs, toPV, frzV, frzL, frzB, resVV, vi, vb, nilV, sl1, bl1, pi, foldV, max2, min2, max_eq, min_eq, Int.tdiv_eq_ediv_of_nonneg, Int.cast_ofNat_Int, Option.isSome_none, Option.isSome_some, Option.isNone_none, Option.isNone_some, and_false, false_and, sl2, sl1P, slP, min_cast, take_map_pi, map_pi, Nat.sub_zero, Nat.zero_mul, List.length_take, decide_eq_true, decide_eq_false, Bool.true_eq_false, Bool.false_eq_true, beqT, beqF, ibeq, ibne, List.take_zero, List.take_succ_cons, List.drop_zero, List.drop_succ_cons, List.drop_nil, List.take_nil, List.cons_append, Bool.not_true, Bool.not_false, hmod, hsh, hor]); rfl))); (repeat (first | refine VC.seq ?_ | refine VC.block ?_ | refine VC.kill ?_ | refine VC.skip ?_ | refine VC.exit ?_ | refine VC.regA ?_ | refine VC.condT ?_ | refine VC.condF ?_)))
    refine ⟨_, i + 1, ?_, ⟨rfl, by omega⟩, ?_⟩
    · omega
    · rw [hst]
      simp only [hmod, Int.toNat_natCast, hshw, hor]
      (apply Go.Ab.V.G.weak; constructor <;> simp (config := {decide := true}) only [PT.Le, inV, mkB, PT.set, VSt.kill, VSt.adopt, VSt.alloc, PT.filt, PT.map, List.map_cons, List.map_nil, noref, norefB, deadB, deadV, nos, nm, nmL, nmB, nmE, Pa.eqb, cond_true, cond_false, Bool.not_true, Bool.not_false, Bool.and_true, Bool.true_and, nmL_vi, flV_len, flP_len, flV_nm, flV_ok, flV_pv, flP_map, drop_flP, drop_flV, putC_flV, eqV2, eqV3, bneT, bneF, decide_true, decide_false, frzL_vi, frzL_flV, nmE_ag, nmE_at, frzE_ag, frzE_at, ofAg_len, ofAt_len, atL_vi, nmL_map_p, frzL_map_p, okL_p, toPVs_p, repsZ, nmL_reps, putC_vi, get_flV0, get_flV1, Int.toNat_zero, Int.toNat_one, Int.reduceToNat, eqV_slice, eqV_ptr, eqV_func, nilS, nilP, nilF, nmL_append, true_or, or_true, and_self, true_and, and_true, Option.some.injEq, reduceCtorEq, false_or, or_false, VV.p.injEq, PV.at.injEq, Value.int.injEq, sl1, vi, bl1, vb, nilV, sl1, hnm, es_nm])
      (all_goals first | rfl | omega | exact ⟨rfl, by omega⟩)
  · have h' : i = L.length := by omega
    rw [hend h']
    subst h'
    simp only
    have hlo : out.length = L.length := by omega
    rw [show sl1 out = .p (.sl 1 L.length (out.map pi)) from by unfold sl1; rw [hlo]]
    (repeat (first | refine VC.seq ?_ | refine VC.block ?_ | refine VC.kill ?_ | refine VC.skip ?_ | refine VC.exit ?_ | refine VC.regA ?_ | refine VC.condT ?_ | refine VC.condF ?_))
    refine VC.frzA p11 (hb := rfl) (hc := toPVs_vi out) ?_
    simp only [VSt.frz, PT.map, frzL, frzV, frzB, Option.map_some, Option.map_none, hfz, es_frz, PT.set, PT.filt, VSt.kill, Pa.eqb, cond_true, cond_false, Bool.and_true, Bool.and_false, Bool.false_and, Bool.true_and, frzL_vi]
    (repeat (first | refine VC.seq ?_ | refine VC.block ?_ | refine VC.kill ?_ | refine VC.skip ?_ | refine VC.exit ?_ | refine VC.regA ?_ | refine VC.condT ?_ | refine VC.condF ?_))
    refine VC.ret (Fin.of rfl rfl ?_ rfl rfl ?_)
    · simp [mkB, PT.set, PT.Le, VSt.kill, vi]
    · simp [subs, nm, nmL, nmsB, nmB, es_nm, hnm, nos, Pa.eqb, vi, sl1, nmL_vi]
end Go.Ab.Dues

namespace Go.Ab.Dues
open Go.Ab.V
set_option maxRecDepth 100000
end Go.Ab.Dues

namespace Go.Ab.Dues
open Go.Ab.V
set_option maxRecDepth 100000
/-! ### Plain facts about margins -/
theorem by_len (c : Can) : ∀ (l : List Nat) (q : List Int × Nat), (l.foldl (byStep c) q).1.length = q.1.length
  | [], _ => rfl
  | t :: l, q => by rw [List.foldl_cons, by_len c l]; simp [byStep]
theorem byO_len (c : Can) (l : List Nat) : (byO c l).length = l.length := by unfold byO; rw [by_len]; simp
end Go.Ab.Dues

namespace Go.Ab.Dues
open Go.Ab.V
set_option maxRecDepth 100000
/-! ### Averages over all orders -/
def addL (a b : List Int) : List Int := List.zipWith (· + ·) a b
def avS (g : List Nat → List Int) (n : Nat) (L : List (List Nat)) : List Int := L.foldl (fun a l => addL a (g l)) (List.replicate n 0)
def avN (g : List Nat → List Int) (n : Nat) (L : List (List Nat)) : List (Nat × Nat) := (avS g n L).map fun x => nrm x.toNat L.length
theorem avS_len {g : List Nat → List Int} {n : Nat} {L : List (List Nat)} (h : ∀ l ∈ L, (g l).length = n) : (avS g n L).length = n := by
  unfold avS
  have : ∀ (L : List (List Nat)) (a : List Int), (∀ l ∈ L, (g l).length = n) → a.length = n → (L.foldl (fun a l => addL a (g l)) a).length = n := by
    intro L
    induction L with
    | nil => intro a _ ha; exact ha
    | cons l L ih =>
      intro a h ha
      rw [List.foldl_cons]
      refine ih _ (fun x hx => h x (.tail _ hx)) ?_
      unfold addL
      rw [List.length_zipWith, ha, h l (.head _), Nat.min_self]
  exact this L _ h (by simp)
theorem avS_snoc (g : List Nat → List Int) (n : Nat) (L : List (List Nat)) (i : Nat) (h : i < L.length) : avS g n (L.take (i + 1)) = addL (avS g n (L.take i)) (g L[i]) := by
  unfold avS
  rw [List.take_add_one, List.getElem?_eq_getElem h, Option.toList_some, List.foldl_append]
  rfl
theorem byO_bd {c : Can} (h : okC c) (l : List Nat) : ∀ x ∈ byO c l, 0 ≤ x ∧ x ≤ 10000 := by
  unfold byO
  have : ∀ (l : List Nat) (q : List Int × Nat), (∀ x ∈ q.1, 0 ≤ x ∧ x ≤ 10000) → ∀ x ∈ (l.foldl (byStep c) q).1, 0 ≤ x ∧ x ≤ 10000 := by
    intro l
    induction l with
    | nil => intro q hq; exact hq
    | cons s l ih =>
      intro q hq
      rw [List.foldl_cons]
      refine ih _ fun x hx => ?_
      rcases List.mem_or_eq_of_mem_set hx with hx | rfl
      · exact hq x hx
      · have h1 := (unions h q.2 (2 ^ s)).2.1
        have h2 := costS_bd h q.2
        have h3 := costS_bd h (q.2 ||| 2 ^ s)
        omega
  exact this l _ fun x hx => by rw [List.eq_of_mem_replicate hx]; decide
theorem avS_bd {g : List Nat → List Int} {n : Nat} {B : Int} : ∀ {L : List (List Nat)}, (∀ l ∈ L, ∀ x ∈ g l, 0 ≤ x ∧ x ≤ B) → ∀ x ∈ avS g n L, 0 ≤ x ∧ x ≤ L.length * B := by
  unfold avS
  have : ∀ (L : List (List Nat)) (a : List Int) (k : Nat), (∀ l ∈ L, ∀ x ∈ g l, 0 ≤ x ∧ x ≤ B) → (∀ x ∈ a, 0 ≤ x ∧ x ≤ k * B) → ∀ x ∈ L.foldl (fun a l => addL a (g l)) a, 0 ≤ x ∧ x ≤ (k + L.length : Nat) * B := by
    intro L
    induction L with
    | nil => intro a k _ ha; exact ha
    | cons l L ih =>
      intro a k h ha
      rw [List.foldl_cons, show k + (l :: L).length = k + 1 + L.length from by simp only [List.length_cons]; omega]
      refine ih _ _ (fun x hx => h x (.tail _ hx)) fun x hx => ?_
      unfold addL at hx
      rw [List.mem_iff_getElem] at hx
      obtain ⟨i, hi, rfl⟩ := hx
      rw [List.getElem_zipWith]
      rw [List.length_zipWith] at hi
      have h1 := ha _ (List.getElem_mem (show i < a.length by omega))
      have h2 := h l (.head _) _ (List.getElem_mem (show i < (g l).length by omega))
      have : ((k + 1 : Nat) : Int) * B = k * B + B := by rw [Int.natCast_add, Int.add_mul]; omega
      omega
  intro L h x hx
  have := this L (List.replicate n 0) 0 h (fun x hx => by rw [List.eq_of_mem_replicate hx]; simp) x hx
  rwa [Nat.zero_add] at this
def addT (a b : List Int) (s : Nat) : List Int := (addL a b).take s ++ a.drop s
theorem addT_len {a b : List Int} (h : a.length = b.length) (s : Nat) : (addT a b s).length = a.length := by
  unfold addT addL
  simp only [List.length_append, List.length_take, List.length_zipWith, List.length_drop]
  omega
theorem addT_get {a b : List Int} (h : a.length = b.length) {s : Nat} (hs : s < a.length) : (addT a b s)[s]? = some a[s] := by
  unfold addT
  have hl : ((addL a b).take s).length = s := by unfold addL; simp only [List.length_take, List.length_zipWith]; omega
  rw [List.getElem?_append_right (by omega), hl, Nat.sub_self, List.getElem?_drop, Nat.add_zero, List.getElem?_eq_getElem hs]
theorem addT_set {a b : List Int} (h : a.length = b.length) {s : Nat} (hs : s < a.length) : (addT a b s).set s (a[s] + b[s]'(by omega)) = addT a b (s + 1) := by
  unfold addT
  have hl : ((addL a b).take s).length = s := by unfold addL; simp only [List.length_take, List.length_zipWith]; omega
  have hl2 : (addL a b).length = a.length := by unfold addL; simp only [List.length_zipWith]; omega
  rw [List.set_append_right _ _ (by omega), hl, Nat.sub_self, List.drop_eq_getElem_cons hs, List.set_cons_zero, List.take_add_one, List.getElem?_eq_getElem (by omega), Option.toList_some, List.append_assoc]
  have : (addL a b)[s]'(by omega) = a[s] + b[s]'(by omega) := by unfold addL; exact List.getElem_zipWith
  rw [this]; rfl
theorem addT_end {a b : List Int} (h : a.length = b.length) : addT a b a.length = addL a b := by
  unfold addT
  rw [List.drop_length, List.append_nil, List.take_of_length_le (by unfold addL; simp only [List.length_zipWith]; omega)]
def boM (c : Can) (L : List (List Nat)) (M : List (Nat × Int)) : List (Nat × Int) := L.foldl (fun M l => (boF c M l).2.2) M
set_option maxHeartbeats 8000000 in
theorem averaged_ok (c : Can) (h : okC c) (M : List (Nat × Int)) (hM : okM c M) :
    VCall cfg 66 [.op 0 p16 0, .clos 58 [.op 0 p16 0] []] [(p16, .cells (flC c (needK c c.ships.length) p14)), (p14, .map (esM M))] [] (slP (frI (avN (byO c) c.ships.length (outs c.ships.length c.ships.length [])))) [(p16, .cells (flC c (needK c c.ships.length) p14)), (p14, .map (esM (boM c (outs c.ships.length c.ships.length []) M)))] := by
  have h7 := h.s7
  have ko := orders_ok c.ships.length
  have hit := orders1_ok c.ships.length (by omega)
  have kb := byOrderN_ok c h
  have hLm := fun x hx => outs_mem (n := c.ships.length) (d := c.ships.length) (l := []) (x := x) (fun s hs => by cases hs) hx
  have hLl := outs_len7 h7
  have hLp := outs_pos h7
  have hbb := byO_bd h
  have hg2 : (flC c (needK c c.ships.length) p14)[2]? = some (sl1 c.ships) := rfl
  have hnm := fl_nm c (needK c c.ships.length) p14
  have hfz := fl_frz c (needK c c.ships.length) p14
  generalize hFL : flC c (needK c c.ships.length) p14 = FL at *
  generalize hL : outs c.ships.length c.ships.length [] = L at *
  refine VCall.mk (fn := a66) rfl rfl rfl ?_
  simp only [a66, inV, mkB, nmsL, PT.set]
  have hs1 : sl1 c.ships = .p (.sl 1 c.ships.length (c.ships.map pi)) := rfl
  rw [hs1] at hg2
  (repeat (first | refine VC.seq ?_ | refine VC.block ?_ | refine VC.kill ?_ | refine VC.skip ?_ | refine VC.exit ?_ | refine VC.regA ?_ | refine VC.condT ?_ | refine VC.condF ?_))
  simp only [hnm, es_nm, nos, Pa.eqb, Bool.not_false, Bool.and_true, cond_true]
  ((try (apply VC.regU; · ((simp (config := {decide := false, maxSteps := 1000000}) (disch := omega) only [vev_call, putC_c0, putC_n0, putC_cs, ble0, List.getElem?_cons_zero, List.getElem?_cons_succ, runU, isCall, wantV, vev, evV, ofVal, ofAtom, atomB, cond_true, cond_false, PT.get, PT.set, PT.filt, PT.map, Option.getD_some, Option.getD_none, ret1V, ret1X, v_ld, v_ias, v_iad, v_fad, v_slsl, v_slarr, v_st, v_app, v_cpy, v_clr, v_len, v_look, v_mset, elsV, partV, newV, free, atV, atI, atL, toVal, cellsV, okV, VSt.put, VSt.kill, VSt.alloc, VSt.frz, VSt.adopt, noref, norefB, deadB, deadV, nos, nm, nmL, nmB, nmE, Pa.eqb, Bool.not_false, Bool.not_true, Bool.and_true, Bool.true_and, Bool.false_and, Bool.and_false, bin, intOps, intBin, cvt, un, goInt, bndsV, bndV, Option.map_some, Option.map_none, List.map_cons, List.map_nil, Int.toNat_natCast, Nat.mul_one, Nat.zero_add, beq_true, beq_false, beq_self_eq_true, List.length_map, List.length_cons, List.length_nil, List.length_append, fillV, pEvV, repsV, List.append_nil, List.nil_append, if_pos, if_neg, reduceIte, List.getElem?_map, List.getElem?_drop, Nat.add_zero, List.getElem?_eq_getElem, Go.IntWalk.i64_in, wrap_u64, tmod_pos, eq_self, true_and, and_true, and_self, List.all_cons, List.all_nil, nmL_vi, flV_len, flP_len, flV_nm, flV_ok, flV_pv, flP_map, drop_flP, drop_flV, putC_flV, eqV2, eqV3, bneT, bneF, decide_true, decide_false, frzL_vi, frzL_flV, nmE_ag, nmE_at, frzE_ag, frzE_at, ofAg_len, ofAt_len, atL_vi, nmL_map_p, frzL_map_p, okL_p, toPVs_p, repsZ, nmL_reps, putC_vi, get_flV0, get_flV1, Int.toNat_zero, Int.toNat_one, Int.reduceToNat, eqV_slice, eqV_ptr, eqV_func, nilS, nilP, nilF, nmL_append, okL_vi, toPVs_vi, toPVs, toPV, frzV, frzL, frzB, resVV, vi, vb, nilV, sl1, bl1, pi, foldV, max2, min2, max_eq, min_eq, Int.tdiv_eq_ediv_of_nonneg, Int.cast_ofNat_Int, Option.isSome_none, Option.isSome_some, Option.isNone_none, Option.isNone_some, and_false, false_and, sl2, sl1P, slP, min_cast, take_map_pi, map_pi, Nat.sub_zero, Nat.zero_mul, List.length_take, decide_eq_true, decide_eq_false, Bool.true_eq_false, Bool.false_eq_true, beqT, beqF, ibeq, ibne, List.take_zero, List.take_succ_cons, List.drop_zero, List.drop_succ_cons, List.drop_nil, List.take_nil, List.cons_append, Bool.not_true, Bool.not_false, hg2]); rfl))); (repeat (first | refine VC.seq ?_ | refine VC.block ?_ | refine VC.kill ?_ | refine VC.skip ?_ | refine VC.exit ?_ | refine VC.regA ?_ | refine VC.condT ?_ | refine VC.condF ?_)))
  simp only [hnm, es_nm, nos, Pa.eqb, Bool.not_false, Bool.and_true, cond_true]
  (refine VC.regCA ?_; refine VO.moreA ?_; refine VO.call0A (no_orc _ (by decide)) ko ?_; refine VO.endA ?_; (repeat (first | refine VC.seq ?_ | refine VC.block ?_ | refine VC.kill ?_ | refine VC.skip ?_ | refine VC.exit ?_ | refine VC.regA ?_ | refine VC.condT ?_ | refine VC.condF ?_)))
  (simp only [List.nil_append, List.append_nil, VSt.kill, VSt.osob, VSt.adoptB, VSt.adopt, VSt.alloc, PT.filt, norefB, deadB, deadV, PT.map, Option.map_some, Option.map_none, List.map_cons, List.map_nil, noref, nos, nm, nmL, nmB, nmE, Pa.eqb, PT.set, mkB, inV, cond_true, cond_false, Bool.and_true, Bool.not_false, Bool.not_true, List.set_cons_zero, List.set_cons_succ])
  have hits : ∀ i (hlt : i < (itms L).length), (itms L)[i] = itm (L[i]'(by simpa [itms] using hlt)) := fun i hlt => by simp [itms]
  have hNB : ∀ it ∈ itms L, ∀ a ∈ nmsL it.2, a = p40 := fun it hit a ha => by
    obtain ⟨l, _, rfl⟩ := List.mem_map.1 hit
    simpa [itm, nmsL] using ha
  refine VC.rangeF (fun (q : Nat × List Int × List (Nat × Int)) => mkB [(p3, .cells [.clos 58 [.op 0 p16 0] []]), (p6, .cells [.os 1 p21 c.ships.length]), (p7, .cells [vi q.1]), (p21, .cells (q.2.1.map vi)), (p16, .cells FL), (p14, .map (esM q.2.2))] .lf) (fun _ => none)
    (fun i q => q.1 = i ∧ q.2.1 = avS (byO c) c.ships.length (L.take i) ∧ okM c q.2.2 ∧ q.2.2 = boM c (L.take i) M) (x0 := (0, List.replicate c.ships.length 0, M)) [p3, p6, p7, p21, p16, p14] rfl rfl (no_orc 85 (by decide)) hit
    (fun _ _ hp => NmOk.get (N := [p3, p6, p7, p21, p16, p14]) ?_ hp) (subs_spec (l := [p16, p14]) (m := [p3, p6, p7, p21, p16, p14]) rfl) (fun _ _ _ a ha => mkB_some (t := .lf) ha) ?_ ⟨rfl, rfl, hM, rfl⟩ ?_ (fun i x hlt _ => by rw [hits]; rfl) (fun i x hlt _ => by rw [hits]; rfl) (fun it hit a ha => by rw [hNB it hit a ha]; decide) ?_ ?_
  · simp [NmOk, nm, nmL]
  · simp [mkB, PT.set, PT.Le, vi]
  · intro x hx
    obtain ⟨l, _, rfl⟩ := List.mem_map.1 hx
    rfl
  · rintro i ⟨q1, q2, q3⟩ hlt ⟨h1, h2, h3, h4⟩
    simp only at h1 h2 h3 h4
    rw [hits i hlt]
    have hlt' : i < L.length := by simpa [itms] using hlt
    have hlm := hLm _ (List.getElem_mem hlt')
    have kl := kb q3 h3 L[i] (by rw [hlm.1]; simp) hlm.2
    have hgl : (byO c L[i]).length = c.ships.length := by rw [byO_len, hlm.1]; simp
    have hq2 : q2.length = c.ships.length := by
      rw [h2]; exact avS_len fun l hl => by rw [byO_len, (hLm l (List.mem_of_mem_take hl)).1]; simp
    have hqb : ∀ x ∈ q2, 0 ≤ x ∧ x ≤ 8235430000 := fun x hx => by
      rw [h2] at hx
      have := avS_bd (B := 10000) (fun l _ => hbb l) x hx
      rw [List.length_take] at this
      omega
    have hxb := hbb L[i]
    have hsn := avS_snoc (byO c) c.ships.length L i hlt'
    have hbm : boM c (L.take (i + 1)) M = (boF c (boM c (L.take i) M) L[i]).2.2 := by
      unfold boM
      rw [List.take_add_one, List.getElem?_eq_getElem hlt', Option.toList_some, List.foldl_append]; rfl
    have hok : okM c (boF c q3 L[i]).2.2 := boF_okM hlm.2 h3
    have hll : L[i].length = c.ships.length := by rw [hlm.1]; simp
    rw [← h4] at hbm
    rw [← h2] at hsn
    rw [hll] at kl
    generalize (boF c q3 L[i]).2.2 = q3' at *
    generalize byO c L[i] = X at *
    simp only [itm, mkB, nmsL, filtNB, PT.set, PT.filt, norefB, nmB, nmL_vi, hnm, es_nm, nm, nmL, nos, Pa.eqb, Bool.not_false, Bool.and_true, cond_true, inV, List.cons_append, List.nil_append, vi, hll]
    (repeat (first | refine VC.seq ?_ | refine VC.block ?_ | refine VC.kill ?_ | refine VC.skip ?_ | refine VC.exit ?_ | refine VC.regA ?_ | refine VC.condT ?_ | refine VC.condF ?_))
    refine VC.regCA ?_
    refine VO.moreA ?_
    refine VO.call [] [(p16, .cells FL), (p14, .map (esM q3)), (p40, .cells ((natI L[i]).map vi))] (mkB [(p3, .cells [.clos 58 [.op 0 p16 0] []]), (p6, .cells [.os 1 p21 c.ships.length]), (p7, .cells [vi ((q1 : Int) + 1)]), (p21, .cells (q2.map vi))] .lf) rfl rfl (no_orc 58 (by decide)) kl trivial ?_ ?_ rfl rfl rfl rfl rfl rfl rfl ?_
    · simp [mkB, PT.set, PT.Le, VSt.kill]
    · simp [mkB, PT.set, PT.Le, VSt.kill, vi]
    (simp only [filtN, filtNB, mkB, PT.set, VSt.put, PT.filt, noref, norefB, nos, nm, nmL, nmB, nmL_vi, nmL_map_p, nmE_ag, flV_nm, List.nil_append, List.append_nil, Pa.eqb, cond_true, cond_false, Bool.and_true, Bool.not_false, Bool.not_true])
    have hql : q2.length = X.length := by omega
    have hT0 : addT q2 X 0 = q2 := by simp [addT]
    have hTl := addT_len hql
    have hTg := fun {s} => addT_get hql (s := s)
    have hTs := fun {s} => addT_set hql (s := s)
    have hTe := addT_end hql
    refine VO.endA ?_
    (repeat (first | refine VC.seq ?_ | refine VC.block ?_ | refine VC.kill ?_ | refine VC.skip ?_ | refine VC.exit ?_ | refine VC.regA ?_ | refine VC.condT ?_ | refine VC.condF ?_))
    refine VC.loopG (fun (s : Nat) => ⟨inV [p6, p29, p30, p31] [.op 0 p6 0, sl1 X, vi X.length, vi s] .lf, mkB [(p3, .cells [.clos 58 [.op 0 p16 0] []]), (p6, .cells [.os 1 p21 c.ships.length]), (p7, .cells [vi ((q1 : Int) + 1)]), (p21, .cells ((addT q2 X s).map vi)), (p16, .cells FL), (p14, .map (esM q3')), (p40, .cells ((natI L[i]).map vi))] .lf, [p3, p6, p7, p21, p16, p14, p40], none⟩) (fun k s => k = X.length - s ∧ s ≤ X.length) (x := 0) ?_ ⟨rfl, Nat.zero_le _⟩ ?_
    · rw [hT0]
      (apply Go.Ab.V.G.weak; constructor <;> simp (config := {decide := true}) only [PT.Le, inV, mkB, PT.set, VSt.kill, VSt.adopt, VSt.alloc, PT.filt, PT.map, List.map_cons, List.map_nil, noref, norefB, deadB, deadV, nos, nm, nmL, nmB, nmE, Pa.eqb, cond_true, cond_false, Bool.not_true, Bool.not_false, Bool.and_true, Bool.true_and, nmL_vi, flV_len, flP_len, flV_nm, flV_ok, flV_pv, flP_map, drop_flP, drop_flV, putC_flV, eqV2, eqV3, bneT, bneF, decide_true, decide_false, frzL_vi, frzL_flV, nmE_ag, nmE_at, frzE_ag, frzE_at, ofAg_len, ofAt_len, atL_vi, nmL_map_p, frzL_map_p, okL_p, toPVs_p, repsZ, nmL_reps, putC_vi, get_flV0, get_flV1, Int.toNat_zero, Int.toNat_one, Int.reduceToNat, eqV_slice, eqV_ptr, eqV_func, nilS, nilP, nilF, nmL_append, true_or, or_true, and_self, true_and, and_true, Option.some.injEq, reduceCtorEq, false_or, or_false, VV.p.injEq, PV.at.injEq, Value.int.injEq, sl1, vi, bl1, vb, nilV, sl1, vi])
      (all_goals first | rfl | omega | exact ⟨rfl, by omega⟩)
    rintro k s ⟨hk, hs⟩
    simp only [inV, PT.set, mkB]
    (repeat (first | refine VC.seq ?_ | refine VC.block ?_ | refine VC.kill ?_ | refine VC.skip ?_ | refine VC.exit ?_ | refine VC.regA ?_ | refine VC.condT ?_ | refine VC.condF ?_))
    have hTl := hTl s
    refine VC.condA ?_ ?_ <;> intro h' <;> (simp only [decide_eq_true_eq, decide_eq_false_iff_not, bne_iff_ne, ne_eq, bne_eq_false_iff_eq, beq_iff_eq, beq_eq_false_iff_ne, Bool.not_eq_true', Bool.not_eq_false', Bool.and_eq_true, Bool.or_eq_true, Int.natCast_inj] at h')
    · have h' : s < X.length := by omega
      have hs2 : s < q2.length := by rw [hql]; exact h'
      have hTg := hTg (s := s) hs2
      have hTs := hTs (s := s) hs2
      have hq := hqb _ (List.getElem_mem hs2)
      have hx := hxb _ (List.getElem_mem h')
      generalize addT q2 X s = Y at *
      have hYl : s < Y.length := by omega
      have hYs : Y[s] = q2[s]'hs2 := by
        rw [List.getElem?_eq_getElem hYl] at hTg
        exact Option.some.inj hTg
      rw [← hYs] at hTs hq
      clear hTg hTe hT0
      (repeat (first | refine VC.seq ?_ | refine VC.block ?_ | refine VC.kill ?_ | refine VC.skip ?_ | refine VC.exit ?_ | refine VC.regA ?_ | refine VC.condT ?_ | refine VC.condF ?_))
      refine ⟨_, s + 1, ?_, ⟨rfl, by omega⟩, ?_⟩
      · omega
      · rw [← hTs]
        (apply Go.Ab.V.G.weak; constructor <;> simp (config := {decide := true}) only [PT.Le, inV, mkB, PT.set, VSt.kill, VSt.adopt, VSt.alloc, PT.filt, PT.map, List.map_cons, List.map_nil, noref, norefB, deadB, deadV, nos, nm, nmL, nmB, nmE, Pa.eqb, cond_true, cond_false, Bool.not_true, Bool.not_false, Bool.and_true, Bool.true_and, nmL_vi, flV_len, flP_len, flV_nm, flV_ok, flV_pv, flP_map, drop_flP, drop_flV, putC_flV, eqV2, eqV3, bneT, bneF, decide_true, decide_false, frzL_vi, frzL_flV, nmE_ag, nmE_at, frzE_ag, frzE_at, ofAg_len, ofAt_len, atL_vi, nmL_map_p, frzL_map_p, okL_p, toPVs_p, repsZ, nmL_reps, putC_vi, get_flV0, get_flV1, Int.toNat_zero, Int.toNat_one, Int.reduceToNat, eqV_slice, eqV_ptr, eqV_func, nilS, nilP, nilF, nmL_append, true_or, or_true, and_self, true_and, and_true, Option.some.injEq, reduceCtorEq, false_or, or_false, VV.p.injEq, PV.at.injEq, Value.int.injEq, sl1, vi, bl1, vb, nilV, sl1, vi])
        (all_goals first | rfl | omega | exact ⟨rfl, by omega⟩)
    · have h' : s = q2.length := by omega
      have hE : addT q2 X s = avS (byO c) c.ships.length (L.take (i + 1)) := by rw [h', hTe, hsn]
      rw [hE]
      (repeat (first | refine VC.seq ?_ | refine VC.block ?_ | refine VC.kill ?_ | refine VC.skip ?_ | refine VC.exit ?_ | refine VC.regA ?_ | refine VC.condT ?_ | refine VC.condF ?_))
      refine ⟨(fun h => nomatch h), (q1 + 1, avS (byO c) c.ships.length (L.take (i + 1)), q3'), ⟨by simp only; omega, rfl, hok, hbm.symm⟩, ?_⟩
      have hc1 : ((q1 + 1 : Nat) : Int) = (q1 : Int) + 1 := by omega
      simp only [hc1]
      (apply Go.Ab.V.G.weak; constructor <;> simp (config := {decide := true}) only [PT.Le, inV, mkB, PT.set, VSt.kill, VSt.adopt, VSt.alloc, PT.filt, PT.map, List.map_cons, List.map_nil, noref, norefB, deadB, deadV, nos, nm, nmL, nmB, nmE, Pa.eqb, cond_true, cond_false, Bool.not_true, Bool.not_false, Bool.and_true, Bool.true_and, nmL_vi, flV_len, flP_len, flV_nm, flV_ok, flV_pv, flP_map, drop_flP, drop_flV, putC_flV, eqV2, eqV3, bneT, bneF, decide_true, decide_false, frzL_vi, frzL_flV, nmE_ag, nmE_at, frzE_ag, frzE_at, ofAg_len, ofAt_len, atL_vi, nmL_map_p, frzL_map_p, okL_p, toPVs_p, repsZ, nmL_reps, putC_vi, get_flV0, get_flV1, Int.toNat_zero, Int.toNat_one, Int.reduceToNat, eqV_slice, eqV_ptr, eqV_func, nilS, nilP, nilF, nmL_append, true_or, or_true, and_self, true_and, and_true, Option.some.injEq, reduceCtorEq, false_or, or_false, VV.p.injEq, PV.at.injEq, Value.int.injEq, sl1, vi, bl1, vb, nilV, sl1, vi, nmsL])
      (all_goals first | rfl | omega | exact ⟨rfl, by omega⟩)
  · rintro _ ⟨q1, q2, q3⟩ ⟨h1, h2, h3, h4⟩
    simp only at h1 h2 h3 h4
    have hil : (itms L).length = L.length := by simp [itms]
    rw [hil] at h1 h2 h4
    rw [List.take_length] at h2 h4
    have hq2 : q2.length = c.ships.length := by
      rw [h2]; exact avS_len fun l hl => by rw [byO_len, (hLm l hl).1]; simp
    have hqb : ∀ x ∈ q2, 0 ≤ x ∧ x ≤ 8235430000 := fun x hx => by
      rw [h2] at hx
      have := avS_bd (B := 10000) (fun l _ => hbb l) x hx
      omega
    have hL0 : 0 < L.length := hLp
    obtain ⟨W, hW⟩ : ∃ W, W = frI (avN (byO c) c.ships.length L) := ⟨_, rfl⟩
    have hWl : W.length = q2.length := by rw [hW]; simp [frI, avN, h2]
    have hWg : ∀ i (hi : i < W.length) (hi2 : i < q2.length), W[i] = (((nrm q2[i].toNat L.length).1 : Int), ((nrm q2[i].toNat L.length).2 : Int)) := fun i hi hi2 => by
      subst hW h2
      simp [frI, avN]
    rw [← hW, ← h4]
    subst h1
    clear hW h2 h4 hLm hbb kb hit hits hNB
    simp only [mkB, PT.set, vi]
    (repeat (first | refine VC.seq ?_ | refine VC.block ?_ | refine VC.kill ?_ | refine VC.skip ?_ | refine VC.exit ?_ | refine VC.regA ?_ | refine VC.condT ?_ | refine VC.condF ?_))
    have hm3 := es_nm q3
    have hz3 := fun a cs => es_frz a cs q3
    generalize esM q3 = E3 at *
    refine VC.loopG (fun (i : Nat) => ⟨inV [p7, p11, p44, p45, p46] [.op 0 p7 0, .os 2 p19 i, .os 1 p21 c.ships.length, vi c.ships.length, vi i] .lf, mkB [(p7, .cells [vi L.length]), (p21, .cells (q2.map vi)), (p16, .cells FL), (p14, .map E3), (p19, .cells (flV (W.take i)))] .lf, [p16, p14], none⟩) (fun k i => k = c.ships.length - i ∧ i ≤ c.ships.length) (x := 0) ?_ ⟨rfl, Nat.zero_le _⟩ ?_
    · refine G.adoptA (p := p11) 2 p19 ?_
      (apply Go.Ab.V.G.weak; constructor <;> simp (config := {decide := true}) only [PT.Le, inV, mkB, PT.set, VSt.kill, VSt.adopt, VSt.alloc, PT.filt, PT.map, List.map_cons, List.map_nil, noref, norefB, deadB, deadV, nos, nm, nmL, nmB, nmE, Pa.eqb, cond_true, cond_false, Bool.not_true, Bool.not_false, Bool.and_true, Bool.true_and, nmL_vi, flV_len, flP_len, flV_nm, flV_ok, flV_pv, flP_map, drop_flP, drop_flV, putC_flV, eqV2, eqV3, bneT, bneF, decide_true, decide_false, frzL_vi, frzL_flV, nmE_ag, nmE_at, frzE_ag, frzE_at, ofAg_len, ofAt_len, atL_vi, nmL_map_p, frzL_map_p, okL_p, toPVs_p, repsZ, nmL_reps, putC_vi, get_flV0, get_flV1, Int.toNat_zero, Int.toNat_one, Int.reduceToNat, eqV_slice, eqV_ptr, eqV_func, nilS, nilP, nilF, nmL_append, true_or, or_true, and_self, true_and, and_true, Option.some.injEq, reduceCtorEq, false_or, or_false, VV.p.injEq, PV.at.injEq, Value.int.injEq, sl1, vi, bl1, vb, nilV, vi, hnm, hm3, List.take_zero, flV])
      exact ⟨rfl, rfl⟩
    rintro k i ⟨hk, hi⟩
    simp only [inV, PT.set, mkB]
    have hll : (flV (W.take i)).length = i * 2 := by rw [flV_len, List.length_take]; omega
    have hn2 := flV_nm (W.take i)
    have htk : ∀ h : i < W.length, flV (W.take (i + 1)) = flV (W.take i) ++ [vi W[i].1, vi W[i].2] := fun h => by rw [List.take_add_one, List.getElem?_eq_getElem h]; exact flV_snoc _ _ _
    have hfz2 : i = W.length → flV (W.take i) = flV W := fun e => by rw [e, List.take_length]
    generalize flV (W.take i) = Z at *
    (repeat (first | refine VC.seq ?_ | refine VC.block ?_ | refine VC.kill ?_ | refine VC.skip ?_ | refine VC.exit ?_ | refine VC.regA ?_ | refine VC.condT ?_ | refine VC.condF ?_))
    refine VC.condA ?_ ?_ <;> intro h' <;> (simp only [decide_eq_true_eq, decide_eq_false_iff_not, bne_iff_ne, ne_eq, bne_eq_false_iff_eq, beq_iff_eq, beq_eq_false_iff_ne, Bool.not_eq_true', Bool.not_eq_false', Bool.and_eq_true, Bool.or_eq_true, Int.natCast_inj] at h')
    · have h' : i < c.ships.length := by omega
      have hi2 : i < q2.length := by rw [hq2]; exact h'
      have hi3 : i < W.length := by rw [hWl]; exact hi2
      have htk := htk hi3
      have hb := hqb _ (List.getElem_mem hi2)
      have k1 := lowest_ok q2[i].toNat L.length (by omega) (by omega) hL0
      rw [Int.toNat_of_nonneg hb.1] at k1
      rw [hWg i hi3 hi2] at htk
      (repeat (first | refine VC.seq ?_ | refine VC.block ?_ | refine VC.kill ?_ | refine VC.skip ?_ | refine VC.exit ?_ | refine VC.regA ?_ | refine VC.condT ?_ | refine VC.condF ?_))
      refine VC.regCA ?_
      refine VO.moreA ?_
      refine VO.call0A (no_orc 78 (by decide)) k1 ?_
      apply VO.upto
      · (simp (config := {decide := false, maxSteps := 1000000}) (disch := omega) only [vev_call, putC_c0, putC_n0, putC_cs, ble0, List.getElem?_cons_zero, List.getElem?_cons_succ, runU, isCall, wantV, vev, evV, ofVal, ofAtom, atomB, cond_true, cond_false, PT.get, PT.set, PT.filt, PT.map, Option.getD_some, Option.getD_none, ret1V, ret1X, v_ld, v_ias, v_iad, v_fad, v_slsl, v_slarr, v_st, v_app, v_cpy, v_clr, v_len, v_look, v_mset, elsV, partV, newV, free, atV, atI, atL, toVal, cellsV, okV, VSt.put, VSt.kill, VSt.alloc, VSt.frz, VSt.adopt, noref, norefB, deadB, deadV, nos, nm, nmL, nmB, nmE, Pa.eqb, Bool.not_false, Bool.not_true, Bool.and_true, Bool.true_and, Bool.false_and, Bool.and_false, bin, intOps, intBin, cvt, un, goInt, bndsV, bndV, Option.map_some, Option.map_none, List.map_cons, List.map_nil, Int.toNat_natCast, Nat.mul_one, Nat.zero_add, beq_true, beq_false, beq_self_eq_true, List.length_map, List.length_cons, List.length_nil, List.length_append, fillV, pEvV, repsV, List.append_nil, List.nil_append, if_pos, if_neg, reduceIte, List.getElem?_map, List.getElem?_drop, Nat.add_zero, List.getElem?_eq_getElem, Go.IntWalk.i64_in, wrap_u64, tmod_pos, eq_self, true_and, and_true, and_self, List.all_cons, List.all_nil, nmL_vi, flV_len, flP_len, flV_nm, flV_ok, flV_pv, flP_map, drop_flP, drop_flV, putC_flV, eqV2, eqV3, bneT, bneF, decide_true, decide_false, frzL_vi, frzL_flV, nmE_ag, nmE_at, frzE_ag, frzE_at, ofAg_len, ofAt_len, atL_vi, nmL_map_p, frzL_map_p, okL_p, toPVs_p, repsZ, nmL_reps, putC_vi, get_flV0, get_flV1, Int.toNat_zero, Int.toNat_one, Int.reduceToNat, eqV_slice, eqV_ptr, eqV_func, nilS, nilP, nilF, nmL_append, okL_vi, toPVs_vi, toPVs, toPV, frzV, frzL, frzB, resVV, vi, vb, nilV, sl1, bl1, pi, foldV, max2, min2, max_eq, min_eq, Int.tdiv_eq_ediv_of_nonneg, Int.cast_ofNat_Int, Option.isSome_none, Option.isSome_some, Option.isNone_none, Option.isNone_some, and_false, false_and, sl2, sl1P, slP, min_cast, take_map_pi, map_pi, Nat.sub_zero, Nat.zero_mul, List.length_take, decide_eq_true, decide_eq_false, Bool.true_eq_false, Bool.false_eq_true, beqT, beqF, ibeq, ibne, List.take_zero, List.take_succ_cons, List.drop_zero, List.drop_succ_cons, List.drop_nil, List.take_nil, List.cons_append, Bool.not_true, Bool.not_false, hll, hn2])
        rfl
      refine VO.nil ?_
      (repeat (first | refine VC.seq ?_ | refine VC.block ?_ | refine VC.kill ?_ | refine VC.skip ?_ | refine VC.exit ?_ | refine VC.regA ?_ | refine VC.condT ?_ | refine VC.condF ?_))
      refine ⟨_, i + 1, ?_, ⟨rfl, by omega⟩, ?_⟩
      · omega
      · (apply Go.Ab.V.G.weak; constructor <;> simp (config := {decide := true}) only [PT.Le, inV, mkB, PT.set, VSt.kill, VSt.adopt, VSt.alloc, PT.filt, PT.map, List.map_cons, List.map_nil, noref, norefB, deadB, deadV, nos, nm, nmL, nmB, nmE, Pa.eqb, cond_true, cond_false, Bool.not_true, Bool.not_false, Bool.and_true, Bool.true_and, nmL_vi, flV_len, flP_len, flV_nm, flV_ok, flV_pv, flP_map, drop_flP, drop_flV, putC_flV, eqV2, eqV3, bneT, bneF, decide_true, decide_false, frzL_vi, frzL_flV, nmE_ag, nmE_at, frzE_ag, frzE_at, ofAg_len, ofAt_len, atL_vi, nmL_map_p, frzL_map_p, okL_p, toPVs_p, repsZ, nmL_reps, putC_vi, get_flV0, get_flV1, Int.toNat_zero, Int.toNat_one, Int.reduceToNat, eqV_slice, eqV_ptr, eqV_func, nilS, nilP, nilF, nmL_append, true_or, or_true, and_self, true_and, and_true, Option.some.injEq, reduceCtorEq, false_or, or_false, VV.p.injEq, PV.at.injEq, Value.int.injEq, sl1, vi, bl1, vb, nilV, htk, vi, hnm, hm3])
        (all_goals first | rfl | omega | exact ⟨rfl, by omega⟩)
    · have h' : i = W.length := by omega
      have hz := hfz2 h'
      have kl := list_ok W (by omega)
      rw [hz]
      subst h'
      refine VC.frzA p19 (hb := rfl) (hc := flV_pv W) ?_
      simp only [VSt.frz, PT.map, frzL, frzV, frzB, Option.map_some, Option.map_none, hfz, hz3, PT.set, PT.filt, VSt.kill, Pa.eqb, cond_true, cond_false, Bool.and_true, Bool.and_false, Bool.false_and, Bool.true_and, frzL_vi]
      (repeat (first | refine VC.seq ?_ | refine VC.block ?_ | refine VC.kill ?_ | refine VC.skip ?_ | refine VC.exit ?_ | refine VC.regA ?_ | refine VC.condT ?_ | refine VC.condF ?_))
      have esl : slP W = .p (.sl 2 W.length (flP W)) := rfl
      rw [esl] at kl ⊢
      refine VC.regCA ?_
      refine VO.moreA ?_
      refine VO.call0A (no_orc 56 (by decide)) kl ?_
      refine VO.endA ?_
      (repeat (first | refine VC.seq ?_ | refine VC.block ?_ | refine VC.kill ?_ | refine VC.skip ?_ | refine VC.exit ?_ | refine VC.regA ?_ | refine VC.condT ?_ | refine VC.condF ?_))
      refine VC.ret (Fin.of rfl rfl ?_ rfl rfl ?_)
      · simp [mkB, PT.set, PT.Le, VSt.kill, vi]
      · simp [subs, nm, nmL, nmsB, nmB, hm3, hnm, nos, Pa.eqb, vi]
end Go.Ab.Dues

namespace Go.Ab.Dues
open Go.Ab.V
set_option maxRecDepth 100000
def avgN (c : Can) : List (Nat × Nat) := avN (byO c) c.ships.length (outs c.ships.length c.ships.length [])
set_option maxHeartbeats 4000000 in
theorem Average_ok (c : Can) (h : okC c) : VCall cfg 35 [canV c] [] [] (.tup [slP (frI (avgN c)), vi 0]) [] := by
  have k1 := open_ok c h
  have k2 := averaged_ok c h [] (fun q hq => by cases hq)
  have he : esM [] = [] := rfl
  rw [he] at k2
  have hnm := fl_nm c (needK c c.ships.length) p14
  have hfz := fl_frz c (needK c c.ships.length) p14
  generalize flC c (needK c c.ships.length) p14 = FL at *
  unfold canV at k1 ⊢
  (refine VCall.mk (fn := a35) rfl rfl rfl ?_; simp only [a35, inV, mkB, nmsL, PT.set])
  (repeat (first | refine VC.seq ?_ | refine VC.block ?_ | refine VC.kill ?_ | refine VC.skip ?_ | refine VC.exit ?_ | refine VC.regA ?_ | refine VC.condT ?_ | refine VC.condF ?_))
  refine VC.regCA ?_
  refine VO.moreA ?_
  refine VO.callN (no_orc 52 (by decide)) k1 rfl rfl rfl rfl rfl rfl ?_
  (simp only [filtN, filtNB, mkB, PT.set, VSt.put, PT.filt, noref, norefB, nos, nm, nmL, nmB, nmL_vi, nmL_map_p, nmE_ag, flV_nm, List.nil_append, List.append_nil, Pa.eqb, cond_true, cond_false, Bool.and_true, Bool.not_false, Bool.not_true])
  refine VO.endA ?_
  (repeat (first | refine VC.seq ?_ | refine VC.block ?_ | refine VC.kill ?_ | refine VC.skip ?_ | refine VC.exit ?_ | refine VC.regA ?_ | refine VC.condT ?_ | refine VC.condF ?_))
  refine VC.regCA ?_
  refine VO.moreA ?_
  refine VO.call [] [(p16, .cells FL), (p14, .map [])] .lf rfl rfl (no_orc 66 (by decide)) k2 trivial ?_ ?_ rfl rfl rfl rfl rfl rfl rfl ?_
  · simp [mkB, PT.set, PT.Le, VSt.kill]
  · trivial
  (simp only [filtN, filtNB, mkB, PT.set, VSt.put, PT.filt, noref, norefB, nos, nm, nmL, nmB, nmL_vi, nmL_map_p, nmE_ag, flV_nm, List.nil_append, List.append_nil, Pa.eqb, cond_true, cond_false, Bool.and_true, Bool.not_false, Bool.not_true])
  refine VO.endA ?_
  (repeat (first | refine VC.seq ?_ | refine VC.block ?_ | refine VC.kill ?_ | refine VC.skip ?_ | refine VC.exit ?_ | refine VC.regA ?_ | refine VC.condT ?_ | refine VC.condF ?_))
  exact VC.ret (Fin.A rfl)
end Go.Ab.Dues

namespace Go.Ab.Dues
open Go.Ab.V
set_option maxRecDepth 100000
/-! ### careenref10.Orders -/
def encP (l : List Nat) : PV := if l = [] then .at (.slice none 0 0) else .sl 1 l.length ((natI l).map pi)
def ordV (L : List (List Nat)) : VV := .p (.sl 1 L.length (L.map encP))
theorem rOrd_mem : ∀ {n : Nat} {l : List Nat}, l ∈ rOrd n → l.length = n ∧ ∀ s ∈ l, s < n
  | 0, l, h => by
    rw [show rOrd 0 = [[]] from rfl, List.mem_singleton] at h
    subst h; exact ⟨rfl, fun s hs => by cases hs⟩
  | n + 1, l, h => by
    rw [show rOrd (n + 1) = (rOrd n).flatMap fun l => rIns l n from rfl, List.mem_flatMap] at h
    obtain ⟨x, hx, h⟩ := h
    obtain ⟨i1, i2⟩ := rOrd_mem hx
    unfold rIns at h
    rw [List.mem_map] at h
    obtain ⟨a, ha, rfl⟩ := h
    rw [List.mem_range] at ha
    refine ⟨by simp only [List.length_append, List.length_take, List.length_drop, List.length_singleton]; omega, fun s hs => ?_⟩
    rw [List.mem_append, List.mem_append, List.mem_singleton] at hs
    rcases hs with (hs | rfl) | hs
    · have := i2 s (List.mem_of_mem_take hs); omega
    · omega
    · have := i2 s (List.mem_of_mem_drop hs); omega
theorem rOrd_len6 {n : Nat} (h : n ≤ 6) : (rOrd n).length ≤ 823543 := by
  rw [← (outs_perm h).length_eq]; exact outs_len7 (by omega)
theorem frzL_app (a : Pa) (cs : List PV) : ∀ l m : List VV, frzL a cs (l ++ m) = frzL a cs l ++ frzL a cs m
  | [], m => rfl
  | x :: l, m => by simp only [List.cons_append, frzL, frzL_app a cs l m]
theorem encP_ne {l : List Nat} {n : Nat} (h : l.length = n + 1) : encP l = .sl 1 (n + 1) ((natI l).map pi) := by
  unfold encP
  rw [if_neg (fun e => by rw [e] at h; simp at h), h]
set_option maxHeartbeats 8000000 in
theorem ROrders_ok (n : Nat) (hn : n ≤ 6) : VCall cfg 69 [vi n] [] [] (ordV (rOrd n)) [] := by
  (refine VCall.mk (fn := a69) rfl rfl rfl ?_; simp only [a69, inV, mkB, nmsL, PT.set])
  (repeat (first | refine VC.seq ?_ | refine VC.block ?_ | refine VC.kill ?_ | refine VC.skip ?_ | refine VC.exit ?_ | refine VC.regA ?_ | refine VC.condT ?_ | refine VC.condF ?_))
  refine VC.frzA p9 ?_
  simp only [VSt.frz, PT.map, frzL, frzV, frzB, Option.map_some, Option.map_none, PT.set, PT.filt, VSt.kill, Pa.eqb, cond_true, cond_false, Bool.and_true, Bool.and_false, Bool.false_and, Bool.true_and]
  refine VC.loopG (fun (s : Nat) => ⟨inV [p0, p3, p4] [vi n, ordV (rOrd s), vi s] .lf, .lf, [], none⟩) (fun k s => k = n - s ∧ s ≤ n) (x := 0) ?_ ⟨rfl, Nat.zero_le _⟩ ?_
  · (apply Go.Ab.V.G.weak; constructor <;> simp (config := {decide := true}) only [PT.Le, inV, mkB, PT.set, VSt.kill, VSt.adopt, VSt.alloc, PT.filt, PT.map, List.map_cons, List.map_nil, noref, norefB, deadB, deadV, nos, nm, nmL, nmB, nmE, Pa.eqb, cond_true, cond_false, Bool.not_true, Bool.not_false, Bool.and_true, Bool.true_and, nmL_vi, flV_len, flP_len, flV_nm, flV_ok, flV_pv, flP_map, drop_flP, drop_flV, putC_flV, eqV2, eqV3, bneT, bneF, decide_true, decide_false, frzL_vi, frzL_flV, nmE_ag, nmE_at, frzE_ag, frzE_at, ofAg_len, ofAt_len, atL_vi, nmL_map_p, frzL_map_p, okL_p, toPVs_p, repsZ, nmL_reps, putC_vi, get_flV0, get_flV1, Int.toNat_zero, Int.toNat_one, Int.reduceToNat, eqV_slice, eqV_ptr, eqV_func, nilS, nilP, nilF, nmL_append, true_or, or_true, and_self, true_and, and_true, Option.some.injEq, reduceCtorEq, false_or, or_false, VV.p.injEq, PV.at.injEq, Value.int.injEq, sl1, vi, bl1, vb, nilV, ordV, rOrd, encP, vi])
    (all_goals first | rfl | omega | exact ⟨rfl, by omega⟩)
  rintro k s ⟨hk, hs⟩
  simp only [inV, PT.set]
  have hmem := fun l => rOrd_mem (n := s) (l := l)
  have hOl := rOrd_len6 (n := s) (by omega)
  have hnext : rOrd (s + 1) = (rOrd s).flatMap fun l => rIns l s := rfl
  have hend : s = n → rOrd s = rOrd n := fun e => by rw [e]
  generalize rOrd s = O at *
  unfold ordV
  (repeat (first | refine VC.seq ?_ | refine VC.block ?_ | refine VC.kill ?_ | refine VC.skip ?_ | refine VC.exit ?_ | refine VC.regA ?_ | refine VC.condT ?_ | refine VC.condF ?_))
  refine VC.condA ?_ ?_ <;> intro h' <;> (simp only [decide_eq_true_eq, decide_eq_false_iff_not, bne_iff_ne, ne_eq, bne_eq_false_iff_eq, beq_iff_eq, beq_eq_false_iff_ne, Bool.not_eq_true', Bool.not_eq_false', Bool.and_eq_true, Bool.or_eq_true, Int.natCast_inj] at h')
  · have h' : s < n := by omega
    (repeat (first | refine VC.seq ?_ | refine VC.block ?_ | refine VC.kill ?_ | refine VC.skip ?_ | refine VC.exit ?_ | refine VC.regA ?_ | refine VC.condT ?_ | refine VC.condF ?_))
    refine VC.loopG (fun (i : Nat) => ⟨inV [p0, p3, p4, p5, p6] [vi n, .p (.sl 1 O.length (O.map encP)), vi s, .os 1 p48 (((O.take i).flatMap fun l => rIns l s).length), vi i] .lf, mkB [(p48, .cells ((((O.take i).flatMap fun l => rIns l s).map encP).map .p))] .lf, [], none⟩) (fun k i => k = O.length - i ∧ i ≤ O.length) (x := 0) ?_ ⟨rfl, Nat.zero_le _⟩ ?_
    · refine G.adoptA (p := p5) 1 p48 ?_
      (apply Go.Ab.V.G.weak; constructor <;> simp (config := {decide := true}) only [PT.Le, inV, mkB, PT.set, VSt.kill, VSt.adopt, VSt.alloc, PT.filt, PT.map, List.map_cons, List.map_nil, noref, norefB, deadB, deadV, nos, nm, nmL, nmB, nmE, Pa.eqb, cond_true, cond_false, Bool.not_true, Bool.not_false, Bool.and_true, Bool.true_and, nmL_vi, flV_len, flP_len, flV_nm, flV_ok, flV_pv, flP_map, drop_flP, drop_flV, putC_flV, eqV2, eqV3, bneT, bneF, decide_true, decide_false, frzL_vi, frzL_flV, nmE_ag, nmE_at, frzE_ag, frzE_at, ofAg_len, ofAt_len, atL_vi, nmL_map_p, frzL_map_p, okL_p, toPVs_p, repsZ, nmL_reps, putC_vi, get_flV0, get_flV1, Int.toNat_zero, Int.toNat_one, Int.reduceToNat, eqV_slice, eqV_ptr, eqV_func, nilS, nilP, nilF, nmL_append, true_or, or_true, and_self, true_and, and_true, Option.some.injEq, reduceCtorEq, false_or, or_false, VV.p.injEq, PV.at.injEq, Value.int.injEq, sl1, vi, bl1, vb, nilV, vi, List.take_zero, List.flatMap_nil])
      (all_goals first | rfl | omega | exact ⟨rfl, by omega⟩)
    rintro k2 i ⟨hk2, hi⟩
    simp only [inV, PT.set, mkB]
    have hDs : ∀ (h : i < O.length), (O.take (i + 1)).flatMap (fun l => rIns l s) = (O.take i).flatMap (fun l => rIns l s) ++ rIns O[i] s := fun h => by
      rw [List.take_add_one, List.getElem?_eq_getElem h, Option.toList_some, List.flatMap_append]; simp
    have hDe : i = O.length → (O.take i).flatMap (fun l => rIns l s) = rOrd (s + 1) := fun e => by rw [e, List.take_length, hnext]
    have hDl : ((O.take i).flatMap (fun l => rIns l s)).length ≤ 823543 := by
      refine Nat.le_trans ?_ (rOrd_len6 (n := s + 1) (by omega))
      rw [hnext]
      conv => rhs; rw [← List.take_append_drop i O, List.flatMap_append, List.length_append]
      omega
    generalize (O.take i).flatMap (fun l => rIns l s) = D at *
    (repeat (first | refine VC.seq ?_ | refine VC.block ?_ | refine VC.kill ?_ | refine VC.skip ?_ | refine VC.exit ?_ | refine VC.regA ?_ | refine VC.condT ?_ | refine VC.condF ?_))
    refine VC.condA ?_ ?_ <;> intro h2 <;> (simp only [decide_eq_true_eq, decide_eq_false_iff_not, bne_iff_ne, ne_eq, bne_eq_false_iff_eq, beq_iff_eq, beq_eq_false_iff_ne, Bool.not_eq_true', Bool.not_eq_false', Bool.and_eq_true, Bool.or_eq_true, Int.natCast_inj] at h2)
    · have h2 : i < O.length := by omega
      have hDs := hDs h2
      have hl := hmem _ (List.getElem_mem h2)
      have hge : (O.map encP)[i]? = some (encP O[i]) := by rw [List.getElem?_map, List.getElem?_eq_getElem h2]; rfl
      generalize O[i] = l at *
      (repeat (first | refine VC.seq ?_ | refine VC.block ?_ | refine VC.kill ?_ | refine VC.skip ?_ | refine VC.exit ?_ | refine VC.regA ?_ | refine VC.condT ?_ | refine VC.condF ?_))
      refine VC.loopG (fun (a : Nat) => ⟨inV [p0, p3, p4, p5, p6, p7] [vi n, .p (.sl 1 O.length (O.map encP)), vi s, .os 1 p48 (D ++ (rIns l s).take a).length, vi i, vi a] .lf, mkB [(p48, .cells (((D ++ (rIns l s).take a).map encP).map .p))] .lf, [], none⟩) (fun k a => k = s + 1 - a ∧ a ≤ s + 1) (x := 0) ?_ ⟨rfl, Nat.zero_le _⟩ ?_
      · (apply Go.Ab.V.G.weak; constructor <;> simp (config := {decide := true}) only [PT.Le, inV, mkB, PT.set, VSt.kill, VSt.adopt, VSt.alloc, PT.filt, PT.map, List.map_cons, List.map_nil, noref, norefB, deadB, deadV, nos, nm, nmL, nmB, nmE, Pa.eqb, cond_true, cond_false, Bool.not_true, Bool.not_false, Bool.and_true, Bool.true_and, nmL_vi, flV_len, flP_len, flV_nm, flV_ok, flV_pv, flP_map, drop_flP, drop_flV, putC_flV, eqV2, eqV3, bneT, bneF, decide_true, decide_false, frzL_vi, frzL_flV, nmE_ag, nmE_at, frzE_ag, frzE_at, ofAg_len, ofAt_len, atL_vi, nmL_map_p, frzL_map_p, okL_p, toPVs_p, repsZ, nmL_reps, putC_vi, get_flV0, get_flV1, Int.toNat_zero, Int.toNat_one, Int.reduceToNat, eqV_slice, eqV_ptr, eqV_func, nilS, nilP, nilF, nmL_append, true_or, or_true, and_self, true_and, and_true, Option.some.injEq, reduceCtorEq, false_or, or_false, VV.p.injEq, PV.at.injEq, Value.int.injEq, sl1, vi, bl1, vb, nilV, vi, List.take_zero, List.append_nil])
        (all_goals first | rfl | omega | exact ⟨rfl, by omega⟩)
      rintro k3 a ⟨hk3, ha⟩
      simp only [inV, PT.set, mkB]
      have hRl : (rIns l s).length = s + 1 := by simp [rIns]
      have hRs : a < s + 1 → D ++ (rIns l s).take (a + 1) = (D ++ (rIns l s).take a) ++ [l.take a ++ [s] ++ l.drop a] := fun h => by
        rw [List.take_add_one, List.getElem?_eq_getElem (by omega), Option.toList_some, ← List.append_assoc]
        simp [rIns]
      have hRe : a = s + 1 → D ++ (rIns l s).take a = D ++ rIns l s := fun e => by rw [e, ← hRl, List.take_length]
      have hGl : (D ++ (rIns l s).take a).length ≤ 900000 := by rw [List.length_append, List.length_take]; omega
      generalize D ++ (rIns l s).take a = G at *
      (repeat (first | refine VC.seq ?_ | refine VC.block ?_ | refine VC.kill ?_ | refine VC.skip ?_ | refine VC.exit ?_ | refine VC.regA ?_ | refine VC.condT ?_ | refine VC.condF ?_))
      refine VC.condA ?_ ?_ <;> intro h3 <;> (simp only [decide_eq_true_eq, decide_eq_false_iff_not, bne_iff_ne, ne_eq, bne_eq_false_iff_eq, beq_iff_eq, beq_eq_false_iff_ne, Bool.not_eq_true', Bool.not_eq_false', Bool.and_eq_true, Bool.or_eq_true, Int.natCast_inj] at h3)
      · have h3 : a < s + 1 := by omega
        have hRs := hRs h3
        rcases Nat.eq_zero_or_pos s with hs0 | hs0
        · have hl0 : l = [] := List.eq_nil_of_length_eq_zero (by omega)
          have ha0 : a = 0 := by omega
          have hge : (O.map encP)[i]? = some (.at (.slice none 0 0)) := by rw [hge, hl0]; rfl
          subst ha0
          have hc0 : ((0 : Nat) : Int) = 0 := rfl
          simp only [hc0]
          (repeat (first | refine VC.seq ?_ | refine VC.block ?_ | refine VC.kill ?_ | refine VC.skip ?_ | refine VC.exit ?_ | refine VC.regA ?_ | refine VC.condT ?_ | refine VC.condF ?_))
          ((try (apply VC.regU; · ((simp (config := {decide := false, maxSteps := 1000000}) (disch := omega) only [vev_call, putC_c0, putC_n0, putC_cs, ble0, List.getElem?_cons_zero, List.getElem?_cons_succ, runU, isCall, wantV, vev, evV, ofVal, ofAtom, atomB, cond_true, cond_false, PT.get, PT.set, PT.filt, PT.map, Option.getD_some, Option.getD_none, ret1V, ret1X, v_ld, v_ias, v_iad, v_fad, v_slsl, v_slarr, v_st, v_app, v_cpy, v_clr, v_len, v_look, v_mset, elsV, partV, newV, free, atV, atI, atL, toVal, cellsV, okV, VSt.put, VSt.kill, VSt.alloc, VSt.frz, VSt.adopt, noref, norefB, deadB, deadV, nos, nm, nmL, nmB, nmE, Pa.eqb, Bool.not_false, Bool.not_true, Bool.and_true, Bool.true_and, Bool.false_and, Bool.and_false, bin, intOps, intBin, cvt, un, goInt, bndsV, bndV, Option.map_some, Option.map_none, List.map_cons, List.map_nil, Int.toNat_natCast, Nat.mul_one, Nat.zero_add, beq_true, beq_false, beq_self_eq_true, List.length_map, List.length_cons, List.length_nil, List.length_append, fillV, pEvV, repsV, List.append_nil, List.nil_append, if_pos, if_neg, reduceIte, List.getElem?_map, List.getElem?_drop, Nat.add_zero, List.getElem?_eq_getElem, Go.IntWalk.i64_in, wrap_u64, tmod_pos, eq_self, true_and, and_true, and_self, List.all_cons, List.all_nil, nmL_vi, flV_len, flP_len, flV_nm, flV_ok, flV_pv, flP_map, drop_flP, drop_flV, putC_flV, eqV2, eqV3, bneT, bneF, decide_true, decide_false, frzL_vi, frzL_flV, nmE_ag, nmE_at, frzE_ag, frzE_at, ofAg_len, ofAt_len, atL_vi, nmL_map_p, frzL_map_p, okL_p, toPVs_p, repsZ, nmL_reps, putC_vi, get_flV0, get_flV1, Int.toNat_zero, Int.toNat_one, Int.reduceToNat, eqV_slice, eqV_ptr, eqV_func, nilS, nilP, nilF, nmL_append, okL_vi, toPVs_vi, toPVs, toPV, frzV, frzL, frzB, resVV, vi, vb, nilV, sl1, bl1, pi, foldV, max2, min2, max_eq, min_eq, Int.tdiv_eq_ediv_of_nonneg, Int.cast_ofNat_Int, Option.isSome_none, Option.isSome_some, Option.isNone_none, Option.isNone_some, and_false, false_and, sl2, sl1P, slP, min_cast, take_map_pi, map_pi, Nat.sub_zero, Nat.zero_mul, List.length_take, decide_eq_true, decide_eq_false, Bool.true_eq_false, Bool.false_eq_true, beqT, beqF, ibeq, ibne, List.take_zero, List.take_succ_cons, List.drop_zero, List.drop_succ_cons, List.drop_nil, List.take_nil, List.cons_append, Bool.not_true, Bool.not_false, hge]); rfl))); (repeat (first | refine VC.seq ?_ | refine VC.block ?_ | refine VC.kill ?_ | refine VC.skip ?_ | refine VC.exit ?_ | refine VC.regA ?_ | refine VC.condT ?_ | refine VC.condF ?_)))
          ((try (apply VC.regU; · ((simp (config := {decide := false, maxSteps := 1000000}) (disch := omega) only [vev_call, putC_c0, putC_n0, putC_cs, ble0, List.getElem?_cons_zero, List.getElem?_cons_succ, runU, isCall, wantV, vev, evV, ofVal, ofAtom, atomB, cond_true, cond_false, PT.get, PT.set, PT.filt, PT.map, Option.getD_some, Option.getD_none, ret1V, ret1X, v_ld, v_ias, v_iad, v_fad, v_slsl, v_slarr, v_st, v_app, v_cpy, v_clr, v_len, v_look, v_mset, elsV, partV, newV, free, atV, atI, atL, toVal, cellsV, okV, VSt.put, VSt.kill, VSt.alloc, VSt.frz, VSt.adopt, noref, norefB, deadB, deadV, nos, nm, nmL, nmB, nmE, Pa.eqb, Bool.not_false, Bool.not_true, Bool.and_true, Bool.true_and, Bool.false_and, Bool.and_false, bin, intOps, intBin, cvt, un, goInt, bndsV, bndV, Option.map_some, Option.map_none, List.map_cons, List.map_nil, Int.toNat_natCast, Nat.mul_one, Nat.zero_add, beq_true, beq_false, beq_self_eq_true, List.length_map, List.length_cons, List.length_nil, List.length_append, fillV, pEvV, repsV, List.append_nil, List.nil_append, if_pos, if_neg, reduceIte, List.getElem?_map, List.getElem?_drop, Nat.add_zero, List.getElem?_eq_getElem, Go.IntWalk.i64_in, wrap_u64, tmod_pos, eq_self, true_and, and_true, and_self, List.all_cons, List.all_nil, nmL_vi, flV_len, flP_len, flV_nm, flV_ok, flV_pv, flP_map, drop_flP, drop_flV, putC_flV, eqV2, eqV3, bneT, bneF, decide_true, decide_false, frzL_vi, frzL_flV, nmE_ag, nmE_at, frzE_ag, frzE_at, ofAg_len, ofAt_len, atL_vi, nmL_map_p, frzL_map_p, okL_p, toPVs_p, repsZ, nmL_reps, putC_vi, get_flV0, get_flV1, Int.toNat_zero, Int.toNat_one, Int.reduceToNat, eqV_slice, eqV_ptr, eqV_func, nilS, nilP, nilF, nmL_append, okL_vi, toPVs_vi, toPVs, toPV, frzV, frzL, frzB, resVV, vi, vb, nilV, sl1, bl1, pi, foldV, max2, min2, max_eq, min_eq, Int.tdiv_eq_ediv_of_nonneg, Int.cast_ofNat_Int, Option.isSome_none, Option.isSome_some, Option.isNone_none, Option.isNone_some, and_false, false_and, sl2, sl1P, slP, min_cast, take_map_pi, map_pi, Nat.sub_zero, Nat.zero_mul, List.length_take, decide_eq_true, decide_eq_false, Bool.true_eq_false, Bool.false_eq_true, beqT, beqF, ibeq, ibne, List.take_zero, List.take_succ_cons, List.drop_zero, List.drop_succ_cons, List.drop_nil, List.take_nil, List.cons_append, Bool.not_true, Bool.not_false, hge]); rfl))); (repeat (first | refine VC.seq ?_ | refine VC.block ?_ | refine VC.kill ?_ | refine VC.skip ?_ | refine VC.exit ?_ | refine VC.regA ?_ | refine VC.condT ?_ | refine VC.condF ?_)))
          refine ⟨_, 0 + 1, ?_, ⟨rfl, by omega⟩, ?_⟩
          · omega
          · rw [hRs]
            refine Go.Ab.V.G.trans (Go.Ab.V.G.frz (a := p33) rfl (cs := (natI (l.take 0 ++ [s] ++ l.drop 0)).map pi) (by subst hl0; rfl) rfl) ?_
            simp only [VSt.frz, PT.map, frzL, frzV, frzB, Option.map_some, Option.map_none, PT.set, PT.filt, VSt.kill, Pa.eqb, cond_true, cond_false, Bool.and_true, Bool.and_false, Bool.false_and, Bool.true_and, frzL_map_p]
            (apply Go.Ab.V.G.weak; constructor <;> simp (config := {decide := true}) only [PT.Le, inV, mkB, PT.set, VSt.kill, VSt.adopt, VSt.alloc, PT.filt, PT.map, List.map_cons, List.map_nil, noref, norefB, deadB, deadV, nos, nm, nmL, nmB, nmE, Pa.eqb, cond_true, cond_false, Bool.not_true, Bool.not_false, Bool.and_true, Bool.true_and, nmL_vi, flV_len, flP_len, flV_nm, flV_ok, flV_pv, flP_map, drop_flP, drop_flV, putC_flV, eqV2, eqV3, bneT, bneF, decide_true, decide_false, frzL_vi, frzL_flV, nmE_ag, nmE_at, frzE_ag, frzE_at, ofAg_len, ofAt_len, atL_vi, nmL_map_p, frzL_map_p, okL_p, toPVs_p, repsZ, nmL_reps, putC_vi, get_flV0, get_flV1, Int.toNat_zero, Int.toNat_one, Int.reduceToNat, eqV_slice, eqV_ptr, eqV_func, nilS, nilP, nilF, nmL_append, true_or, or_true, and_self, true_and, and_true, Option.some.injEq, reduceCtorEq, false_or, or_false, VV.p.injEq, PV.at.injEq, Value.int.injEq, sl1, vi, bl1, vb, nilV, vi])
            all_goals first | rfl | skip
            · rw [List.length_append]; rfl
            · have e1 : (l.take 0 ++ [s] ++ l.drop 0).length = s + 1 := by subst hl0; rw [hs0]; rfl
              rw [frzL_app, frzL_map_p, List.map_append, List.map_append, List.map_cons, List.map_nil, encP_ne e1, hs0]
              rfl
        · have hle : encP l = .sl 1 s ((natI l).map pi) := by
            unfold encP
            rw [if_neg (fun e => by rw [e] at hl; simp at hl; omega), hl.1]
          rw [hle] at hge
          have hnl : (natI l).length = s := by rw [natI_len]; exact hl.1
          (repeat (first | refine VC.seq ?_ | refine VC.block ?_ | refine VC.kill ?_ | refine VC.skip ?_ | refine VC.exit ?_ | refine VC.regA ?_ | refine VC.condT ?_ | refine VC.condF ?_))
          have hta : ((natI l).take a).length = a := by rw [List.length_take]; omega
          have hda : (natI (l.drop a)).length = s - a := by rw [natI_len, List.length_drop]; omega
          have htd : (((natI l).map pi).drop a).take (s - a) = (natI (l.drop a)).map pi := by
            rw [← List.map_drop, natI_drop, List.take_of_length_le (by rw [List.length_map]; omega)]
          apply VC.regU
          · (simp (config := {decide := false, maxSteps := 1000000}) (disch := omega) only [vev_call, putC_c0, putC_n0, putC_cs, ble0, List.getElem?_cons_zero, List.getElem?_cons_succ, runU, isCall, wantV, vev, evV, ofVal, ofAtom, atomB, cond_true, cond_false, PT.get, PT.set, PT.filt, PT.map, Option.getD_some, Option.getD_none, ret1V, ret1X, v_ld, v_ias, v_iad, v_fad, v_slsl, v_slarr, v_st, v_app, v_cpy, v_clr, v_len, v_look, v_mset, elsV, partV, newV, free, atV, atI, atL, toVal, cellsV, okV, VSt.put, VSt.kill, VSt.alloc, VSt.frz, VSt.adopt, noref, norefB, deadB, deadV, nos, nm, nmL, nmB, nmE, Pa.eqb, Bool.not_false, Bool.not_true, Bool.and_true, Bool.true_and, Bool.false_and, Bool.and_false, bin, intOps, intBin, cvt, un, goInt, bndsV, bndV, Option.map_some, Option.map_none, List.map_cons, List.map_nil, Int.toNat_natCast, Nat.mul_one, Nat.zero_add, beq_true, beq_false, beq_self_eq_true, List.length_map, List.length_cons, List.length_nil, List.length_append, fillV, pEvV, repsV, List.append_nil, List.nil_append, if_pos, if_neg, reduceIte, List.getElem?_map, List.getElem?_drop, Nat.add_zero, List.getElem?_eq_getElem, Go.IntWalk.i64_in, wrap_u64, tmod_pos, eq_self, true_and, and_true, and_self, List.all_cons, List.all_nil, nmL_vi, flV_len, flP_len, flV_nm, flV_ok, flV_pv, flP_map, drop_flP, drop_flV, putC_flV, eqV2, eqV3, bneT, bneF, decide_true, decide_false, frzL_vi, frzL_flV, nmE_ag, nmE_at, frzE_ag, frzE_at, ofAg_len, ofAt_len, atL_vi, nmL_map_p, frzL_map_p, okL_p, toPVs_p, repsZ, nmL_reps, putC_vi, get_flV0, get_flV1, Int.toNat_zero, Int.toNat_one, Int.reduceToNat, eqV_slice, eqV_ptr, eqV_func, nilS, nilP, nilF, nmL_append, okL_vi, toPVs_vi, toPVs, toPV, frzV, frzL, frzB, resVV, vi, vb, nilV, sl1, bl1, pi, foldV, max2, min2, max_eq, min_eq, Int.tdiv_eq_ediv_of_nonneg, Int.cast_ofNat_Int, Option.isSome_none, Option.isSome_some, Option.isNone_none, Option.isNone_some, and_false, false_and, sl2, sl1P, slP, min_cast, take_map_pi, map_pi, Nat.sub_zero, Nat.zero_mul, List.length_take, decide_eq_true, decide_eq_false, Bool.true_eq_false, Bool.false_eq_true, beqT, beqF, ibeq, ibne, List.take_zero, List.take_succ_cons, List.drop_zero, List.drop_succ_cons, List.drop_nil, List.take_nil, List.cons_append, Bool.not_true, Bool.not_false, hge, hnl])
            rfl
          (repeat (first | refine VC.seq ?_ | refine VC.block ?_ | refine VC.kill ?_ | refine VC.skip ?_ | refine VC.exit ?_ | refine VC.regA ?_ | refine VC.condT ?_ | refine VC.condF ?_))
          apply VC.regU
          · (simp (config := {decide := false, maxSteps := 1000000}) (disch := omega) only [vev_call, putC_c0, putC_n0, putC_cs, ble0, List.getElem?_cons_zero, List.getElem?_cons_succ, runU, isCall, wantV, vev, evV, ofVal, ofAtom, atomB, cond_true, cond_false, PT.get, PT.set, PT.filt, PT.map, Option.getD_some, Option.getD_none, ret1V, ret1X, v_ld, v_ias, v_iad, v_fad, v_slsl, v_slarr, v_st, v_app, v_cpy, v_clr, v_len, v_look, v_mset, elsV, partV, newV, free, atV, atI, atL, toVal, cellsV, okV, VSt.put, VSt.kill, VSt.alloc, VSt.frz, VSt.adopt, noref, norefB, deadB, deadV, nos, nm, nmL, nmB, nmE, Pa.eqb, Bool.not_false, Bool.not_true, Bool.and_true, Bool.true_and, Bool.false_and, Bool.and_false, bin, intOps, intBin, cvt, un, goInt, bndsV, bndV, Option.map_some, Option.map_none, List.map_cons, List.map_nil, Int.toNat_natCast, Nat.mul_one, Nat.zero_add, beq_true, beq_false, beq_self_eq_true, List.length_map, List.length_cons, List.length_nil, List.length_append, fillV, pEvV, repsV, List.append_nil, List.nil_append, if_pos, if_neg, reduceIte, List.getElem?_map, List.getElem?_drop, Nat.add_zero, List.getElem?_eq_getElem, Go.IntWalk.i64_in, wrap_u64, tmod_pos, eq_self, true_and, and_true, and_self, List.all_cons, List.all_nil, nmL_vi, flV_len, flP_len, flV_nm, flV_ok, flV_pv, flP_map, drop_flP, drop_flV, putC_flV, eqV2, eqV3, bneT, bneF, decide_true, decide_false, frzL_vi, frzL_flV, nmE_ag, nmE_at, frzE_ag, frzE_at, ofAg_len, ofAt_len, atL_vi, nmL_map_p, frzL_map_p, okL_p, toPVs_p, repsZ, nmL_reps, putC_vi, get_flV0, get_flV1, Int.toNat_zero, Int.toNat_one, Int.reduceToNat, eqV_slice, eqV_ptr, eqV_func, nilS, nilP, nilF, nmL_append, okL_vi, toPVs_vi, toPVs, toPV, frzV, frzL, frzB, resVV, vi, vb, nilV, sl1, bl1, pi, foldV, max2, min2, max_eq, min_eq, Int.tdiv_eq_ediv_of_nonneg, Int.cast_ofNat_Int, Option.isSome_none, Option.isSome_some, Option.isNone_none, Option.isNone_some, and_false, false_and, sl2, sl1P, slP, min_cast, take_map_pi, map_pi, Nat.sub_zero, Nat.zero_mul, List.length_take, decide_eq_true, decide_eq_false, Bool.true_eq_false, Bool.false_eq_true, beqT, beqF, ibeq, ibne, List.take_zero, List.take_succ_cons, List.drop_zero, List.drop_succ_cons, List.drop_nil, List.take_nil, List.cons_append, Bool.not_true, Bool.not_false, hge, hnl, hta, hda, htd])
            rfl
          (repeat (first | refine VC.seq ?_ | refine VC.block ?_ | refine VC.kill ?_ | refine VC.skip ?_ | refine VC.exit ?_ | refine VC.regA ?_ | refine VC.condT ?_ | refine VC.condF ?_))
          refine ⟨_, a + 1, ?_, ⟨rfl, by omega⟩, ?_⟩
          · omega
          · rw [hRs]
            refine Go.Ab.V.G.trans (Go.Ab.V.G.frz (a := p33) rfl (cs := (natI (l.take a ++ [s] ++ l.drop a)).map pi) ?_ rfl) ?_
            · rw [← toPVs_vi]
              simp [natI, vi]
            · simp only [VSt.frz, PT.map, frzL, frzV, frzB, Option.map_some, Option.map_none, PT.set, PT.filt, VSt.kill, Pa.eqb, cond_true, cond_false, Bool.and_true, Bool.and_false, Bool.false_and, Bool.true_and, frzL_map_p]
              (apply Go.Ab.V.G.weak; constructor <;> simp (config := {decide := true}) only [PT.Le, inV, mkB, PT.set, VSt.kill, VSt.adopt, VSt.alloc, PT.filt, PT.map, List.map_cons, List.map_nil, noref, norefB, deadB, deadV, nos, nm, nmL, nmB, nmE, Pa.eqb, cond_true, cond_false, Bool.not_true, Bool.not_false, Bool.and_true, Bool.true_and, nmL_vi, flV_len, flP_len, flV_nm, flV_ok, flV_pv, flP_map, drop_flP, drop_flV, putC_flV, eqV2, eqV3, bneT, bneF, decide_true, decide_false, frzL_vi, frzL_flV, nmE_ag, nmE_at, frzE_ag, frzE_at, ofAg_len, ofAt_len, atL_vi, nmL_map_p, frzL_map_p, okL_p, toPVs_p, repsZ, nmL_reps, putC_vi, get_flV0, get_flV1, Int.toNat_zero, Int.toNat_one, Int.reduceToNat, eqV_slice, eqV_ptr, eqV_func, nilS, nilP, nilF, nmL_append, true_or, or_true, and_self, true_and, and_true, Option.some.injEq, reduceCtorEq, false_or, or_false, VV.p.injEq, PV.at.injEq, Value.int.injEq, sl1, vi, bl1, vb, nilV, vi])
              all_goals first | rfl | skip
              · exact ⟨by omega, by rw [List.length_append]; rfl⟩
              · have e1 : (l.take a ++ [s] ++ l.drop a).length = s + 1 := by
                  simp only [List.length_append, List.length_take, List.length_drop, List.length_singleton]; omega
                rw [frzL_app, frzL_map_p, List.map_append, List.map_append, List.map_cons, List.map_nil, encP_ne e1, show a + 1 + (s - a) = s + 1 from by omega]
                rfl
      · have h3 : a = s + 1 := by omega
        have hRe := hRe h3
        (repeat (first | refine VC.seq ?_ | refine VC.block ?_ | refine VC.kill ?_ | refine VC.skip ?_ | refine VC.exit ?_ | refine VC.regA ?_ | refine VC.condT ?_ | refine VC.condF ?_))
        refine ⟨_, i + 1, ?_, ⟨rfl, by omega⟩, ?_⟩
        · omega
        · rw [hDs, ← hRe]
          (apply Go.Ab.V.G.weak; constructor <;> simp (config := {decide := true}) only [PT.Le, inV, mkB, PT.set, VSt.kill, VSt.adopt, VSt.alloc, PT.filt, PT.map, List.map_cons, List.map_nil, noref, norefB, deadB, deadV, nos, nm, nmL, nmB, nmE, Pa.eqb, cond_true, cond_false, Bool.not_true, Bool.not_false, Bool.and_true, Bool.true_and, nmL_vi, flV_len, flP_len, flV_nm, flV_ok, flV_pv, flP_map, drop_flP, drop_flV, putC_flV, eqV2, eqV3, bneT, bneF, decide_true, decide_false, frzL_vi, frzL_flV, nmE_ag, nmE_at, frzE_ag, frzE_at, ofAg_len, ofAt_len, atL_vi, nmL_map_p, frzL_map_p, okL_p, toPVs_p, repsZ, nmL_reps, putC_vi, get_flV0, get_flV1, Int.toNat_zero, Int.toNat_one, Int.reduceToNat, eqV_slice, eqV_ptr, eqV_func, nilS, nilP, nilF, nmL_append, true_or, or_true, and_self, true_and, and_true, Option.some.injEq, reduceCtorEq, false_or, or_false, VV.p.injEq, PV.at.injEq, Value.int.injEq, sl1, vi, bl1, vb, nilV, vi])
          (all_goals first | rfl | omega | exact ⟨rfl, by omega⟩)
    · have h2 : i = O.length := by omega
      have hDe := hDe h2
      (repeat (first | refine VC.seq ?_ | refine VC.block ?_ | refine VC.kill ?_ | refine VC.skip ?_ | refine VC.exit ?_ | refine VC.regA ?_ | refine VC.condT ?_ | refine VC.condF ?_))
      refine ⟨_, s + 1, ?_, ⟨rfl, by omega⟩, ?_⟩
      · omega
      · rw [← hDe]
        refine Go.Ab.V.G.trans (Go.Ab.V.G.frz (a := p48) rfl (cs := D.map encP) (toPVs_p _) rfl) ?_
        simp only [VSt.frz, PT.map, frzL, frzV, frzB, Option.map_some, Option.map_none, PT.set, PT.filt, VSt.kill, Pa.eqb, cond_true, cond_false, Bool.and_true, Bool.and_false, Bool.false_and, Bool.true_and, frzL_map_p]
        (apply Go.Ab.V.G.weak; constructor <;> simp (config := {decide := true}) only [PT.Le, inV, mkB, PT.set, VSt.kill, VSt.adopt, VSt.alloc, PT.filt, PT.map, List.map_cons, List.map_nil, noref, norefB, deadB, deadV, nos, nm, nmL, nmB, nmE, Pa.eqb, cond_true, cond_false, Bool.not_true, Bool.not_false, Bool.and_true, Bool.true_and, nmL_vi, flV_len, flP_len, flV_nm, flV_ok, flV_pv, flP_map, drop_flP, drop_flV, putC_flV, eqV2, eqV3, bneT, bneF, decide_true, decide_false, frzL_vi, frzL_flV, nmE_ag, nmE_at, frzE_ag, frzE_at, ofAg_len, ofAt_len, atL_vi, nmL_map_p, frzL_map_p, okL_p, toPVs_p, repsZ, nmL_reps, putC_vi, get_flV0, get_flV1, Int.toNat_zero, Int.toNat_one, Int.reduceToNat, eqV_slice, eqV_ptr, eqV_func, nilS, nilP, nilF, nmL_append, true_or, or_true, and_self, true_and, and_true, Option.some.injEq, reduceCtorEq, false_or, or_false, VV.p.injEq, PV.at.injEq, Value.int.injEq, sl1, vi, bl1, vb, nilV, vi])
        (all_goals first | rfl | omega | exact ⟨rfl, by omega⟩)
  · have h' : s = n := by omega
    have he := hend h'
    rw [← he]
    (repeat (first | refine VC.seq ?_ | refine VC.block ?_ | refine VC.kill ?_ | refine VC.skip ?_ | refine VC.exit ?_ | refine VC.regA ?_ | refine VC.condT ?_ | refine VC.condF ?_))
    exact VC.ret (Fin.A rfl)
end Go.Ab.Dues

namespace Go.Ab.Dues
open Go.Ab.V
set_option maxRecDepth 100000
theorem G.encP {S : VSt} {p : Pa} {l : List Nat} {S2 : VSt} (hp : PT.get p S.L = some (.p (encP l))) (hq : G ⟨PT.set p S.L (some (sl1 (natI l))), S.B, S.K, S.H⟩ S2) : G S S2 := by
  by_cases h : l = []
  · subst h
    exact G.nilp 1 hq hp
  · have e : Dues.encP l = .sl 1 l.length ((natI l).map pi) := by unfold Dues.encP; rw [if_neg h]
    rw [e] at hp
    refine G.trans (S2 := ⟨PT.set p S.L (some (sl1 (natI l))), S.B, S.K, S.H⟩) ?_ hq
    intro X s h ids F t
    refine ⟨ids, F, ⟨t.wf, t.base, t.next, t.keep, t.frz, t.flt, t.blk, t.own, t.inj, fun q x hq => ?_, t.stab, t.hist, t.nx⟩⟩
    have hq : PT.get q (PT.set p S.L (some (sl1 (natI l)))) = some x := hq
    rw [PT.get_set] at hq
    split at hq
    · rename_i e; cases hq; subst e
      have := t.slots q _ hp
      unfold sl1; rw [natI_len]; exact this
    · exact t.slots q x hq
theorem rOrd_pos : ∀ n, 0 < (rOrd n).length
  | 0 => by decide
  | n + 1 => by
    have := rOrd_pos n
    rw [show rOrd (n + 1) = (rOrd n).flatMap fun l => rIns l n from rfl]
    cases h : rOrd n with
    | nil => rw [h] at this; cases this
    | cons x l => rw [List.flatMap_cons, List.length_append]; simp [rIns]; omega
set_option maxHeartbeats 8000000 in
theorem RAverage_ok (c : Can) (h : okC c) (h6 : c.ships.length ≤ 6) : VCall cfg 36 [canV c] [] [] (slP (frI (avN (byO c) c.ships.length (rOrd c.ships.length)))) [] := by
  have ko := ROrders_ok c.ships.length h6
  have kb := RByOrder_ok c h
  have hLm := fun x hx => rOrd_mem (n := c.ships.length) (l := x) hx
  have hLl := rOrd_len6 h6
  have hLp := rOrd_pos c.ships.length
  have hbb := byO_bd h
  generalize rOrd c.ships.length = O at *
  unfold canV ordV at *
  (refine VCall.mk (fn := a36) rfl rfl rfl ?_; simp only [a36, inV, mkB, nmsL, PT.set])
  (repeat (first | refine VC.seq ?_ | refine VC.block ?_ | refine VC.kill ?_ | refine VC.skip ?_ | refine VC.exit ?_ | refine VC.regA ?_ | refine VC.condT ?_ | refine VC.condF ?_))
  (refine VC.regCA ?_; refine VO.moreA ?_; refine VO.call0A (no_orc _ (by decide)) ko ?_; refine VO.endA ?_; (repeat (first | refine VC.seq ?_ | refine VC.block ?_ | refine VC.kill ?_ | refine VC.skip ?_ | refine VC.exit ?_ | refine VC.regA ?_ | refine VC.condT ?_ | refine VC.condF ?_)))
  refine VC.loopG (fun (i : Nat) => ⟨inV [p1, p3, p4, p5] [.op 0 p1 0, .p (.sl 1 O.length (O.map encP)), .os 1 p17 c.ships.length, vi i] .lf, mkB [(p1, .cells [sl1 c.up, sl1 c.cost, sl1 c.ships]), (p17, .cells ((avS (byO c) c.ships.length (O.take i)).map vi))] .lf, [], none⟩) (fun k i => k = O.length - i ∧ i ≤ O.length) (x := 0) ?_ ⟨rfl, Nat.zero_le _⟩ ?_
  · (apply Go.Ab.V.G.weak; constructor <;> simp (config := {decide := true}) only [PT.Le, inV, mkB, PT.set, VSt.kill, VSt.adopt, VSt.alloc, PT.filt, PT.map, List.map_cons, List.map_nil, noref, norefB, deadB, deadV, nos, nm, nmL, nmB, nmE, Pa.eqb, cond_true, cond_false, Bool.not_true, Bool.not_false, Bool.and_true, Bool.true_and, nmL_vi, flV_len, flP_len, flV_nm, flV_ok, flV_pv, flP_map, drop_flP, drop_flV, putC_flV, eqV2, eqV3, bneT, bneF, decide_true, decide_false, frzL_vi, frzL_flV, nmE_ag, nmE_at, frzE_ag, frzE_at, ofAg_len, ofAt_len, atL_vi, nmL_map_p, frzL_map_p, okL_p, toPVs_p, repsZ, nmL_reps, putC_vi, get_flV0, get_flV1, Int.toNat_zero, Int.toNat_one, Int.reduceToNat, eqV_slice, eqV_ptr, eqV_func, nilS, nilP, nilF, nmL_append, true_or, or_true, and_self, true_and, and_true, Option.some.injEq, reduceCtorEq, false_or, or_false, VV.p.injEq, PV.at.injEq, Value.int.injEq, sl1, vi, bl1, vb, nilV, sl1, avS, List.take_zero, List.foldl_nil])
    (all_goals first | rfl | omega | exact ⟨rfl, by omega⟩)
  rintro k i ⟨hk, hi⟩
  simp only [inV, PT.set, mkB]
  have hq2 : (avS (byO c) c.ships.length (O.take i)).length = c.ships.length := avS_len fun l hl => by rw [byO_len, (hLm l (List.mem_of_mem_take hl)).1]
  have hqb : ∀ x ∈ avS (byO c) c.ships.length (O.take i), 0 ≤ x ∧ x ≤ 8235430000 := fun x hx => by
    have := avS_bd (B := 10000) (fun l _ => hbb l) x hx
    rw [List.length_take] at this
    omega
  have hsn := avS_snoc (byO c) c.ships.length O i
  have hend : i = O.length → avS (byO c) c.ships.length (O.take i) = avS (byO c) c.ships.length O := fun e => by rw [e, List.take_length]
  generalize hA : avS (byO c) c.ships.length (O.take i) = A at *
  (repeat (first | refine VC.seq ?_ | refine VC.block ?_ | refine VC.kill ?_ | refine VC.skip ?_ | refine VC.exit ?_ | refine VC.regA ?_ | refine VC.condT ?_ | refine VC.condF ?_))
  refine VC.condA ?_ ?_ <;> intro h' <;> (simp only [decide_eq_true_eq, decide_eq_false_iff_not, bne_iff_ne, ne_eq, bne_eq_false_iff_eq, beq_iff_eq, beq_eq_false_iff_ne, Bool.not_eq_true', Bool.not_eq_false', Bool.and_eq_true, Bool.or_eq_true, Int.natCast_inj] at h')
  · have h' : i < O.length := by omega
    have hsn := hsn h'
    have hlm := hLm _ (List.getElem_mem h')
    have kb := kb O[i] hlm.2 hlm.1
    have hge : (O.map encP)[i]? = some (encP O[i]) := by rw [List.getElem?_map, List.getElem?_eq_getElem h']; rfl
    have hXl : (byO c O[i]).length = c.ships.length := by rw [byO_len, hlm.1]
    have hxb := hbb O[i]
    generalize hX : byO c O[i] = X at *
    (repeat (first | refine VC.seq ?_ | refine VC.block ?_ | refine VC.kill ?_ | refine VC.skip ?_ | refine VC.exit ?_ | refine VC.regA ?_ | refine VC.condT ?_ | refine VC.condF ?_))
    refine VC.regCA ?_
    apply VO.upto
    · (simp (config := {decide := false, maxSteps := 1000000}) (disch := omega) only [vev_call, putC_c0, putC_n0, putC_cs, ble0, List.getElem?_cons_zero, List.getElem?_cons_succ, runU, isCall, wantV, vev, evV, ofVal, ofAtom, atomB, cond_true, cond_false, PT.get, PT.set, PT.filt, PT.map, Option.getD_some, Option.getD_none, ret1V, ret1X, v_ld, v_ias, v_iad, v_fad, v_slsl, v_slarr, v_st, v_app, v_cpy, v_clr, v_len, v_look, v_mset, elsV, partV, newV, free, atV, atI, atL, toVal, cellsV, okV, VSt.put, VSt.kill, VSt.alloc, VSt.frz, VSt.adopt, noref, norefB, deadB, deadV, nos, nm, nmL, nmB, nmE, Pa.eqb, Bool.not_false, Bool.not_true, Bool.and_true, Bool.true_and, Bool.false_and, Bool.and_false, bin, intOps, intBin, cvt, un, goInt, bndsV, bndV, Option.map_some, Option.map_none, List.map_cons, List.map_nil, Int.toNat_natCast, Nat.mul_one, Nat.zero_add, beq_true, beq_false, beq_self_eq_true, List.length_map, List.length_cons, List.length_nil, List.length_append, fillV, pEvV, repsV, List.append_nil, List.nil_append, if_pos, if_neg, reduceIte, List.getElem?_map, List.getElem?_drop, Nat.add_zero, List.getElem?_eq_getElem, Go.IntWalk.i64_in, wrap_u64, tmod_pos, eq_self, true_and, and_true, and_self, List.all_cons, List.all_nil, nmL_vi, flV_len, flP_len, flV_nm, flV_ok, flV_pv, flP_map, drop_flP, drop_flV, putC_flV, eqV2, eqV3, bneT, bneF, decide_true, decide_false, frzL_vi, frzL_flV, nmE_ag, nmE_at, frzE_ag, frzE_at, ofAg_len, ofAt_len, atL_vi, nmL_map_p, frzL_map_p, okL_p, toPVs_p, repsZ, nmL_reps, putC_vi, get_flV0, get_flV1, Int.toNat_zero, Int.toNat_one, Int.reduceToNat, eqV_slice, eqV_ptr, eqV_func, nilS, nilP, nilF, nmL_append, okL_vi, toPVs_vi, toPVs, toPV, frzV, frzL, frzB, resVV, vi, vb, nilV, sl1, bl1, pi, foldV, max2, min2, max_eq, min_eq, Int.tdiv_eq_ediv_of_nonneg, Int.cast_ofNat_Int, Option.isSome_none, Option.isSome_some, Option.isNone_none, Option.isNone_some, and_false, false_and, sl2, sl1P, slP, min_cast, take_map_pi, map_pi, Nat.sub_zero, Nat.zero_mul, List.length_take, decide_eq_true, decide_eq_false, Bool.true_eq_false, Bool.false_eq_true, beqT, beqF, ibeq, ibne, List.take_zero, List.take_succ_cons, List.drop_zero, List.drop_succ_cons, List.drop_nil, List.take_nil, List.cons_append, Bool.not_true, Bool.not_false, hge])
      rfl
    refine VO.ghost (G.encP (p := p28) (l := O[i]) rfl G.refl) ?_
    simp only [PT.set]
    refine VO.call0A (no_orc 23 (by decide)) kb ?_
    (refine VO.endA ?_; (repeat (first | refine VC.seq ?_ | refine VC.block ?_ | refine VC.kill ?_ | refine VC.skip ?_ | refine VC.exit ?_ | refine VC.regA ?_ | refine VC.condT ?_ | refine VC.condF ?_)))
    have hql : A.length = X.length := by omega
    have hT0 : addT A X 0 = A := by simp [addT]
    have hTl := addT_len hql
    have hTg := fun {s} => addT_get hql (s := s)
    have hTs := fun {s} => addT_set hql (s := s)
    have hTe := addT_end hql
    refine VC.loopG (fun (s : Nat) => ⟨inV [p1, p3, p4, p5, p6, p7] [.op 0 p1 0, .p (.sl 1 O.length (O.map encP)), .os 1 p17 c.ships.length, vi i, sl1 X, vi s] .lf, mkB [(p1, .cells [sl1 c.up, sl1 c.cost, sl1 c.ships]), (p17, .cells ((addT A X s).map vi))] .lf, [], none⟩) (fun k s => k = X.length - s ∧ s ≤ X.length) (x := 0) ?_ ⟨rfl, Nat.zero_le _⟩ ?_
    · rw [hT0]
      (apply Go.Ab.V.G.weak; constructor <;> simp (config := {decide := true}) only [PT.Le, inV, mkB, PT.set, VSt.kill, VSt.adopt, VSt.alloc, PT.filt, PT.map, List.map_cons, List.map_nil, noref, norefB, deadB, deadV, nos, nm, nmL, nmB, nmE, Pa.eqb, cond_true, cond_false, Bool.not_true, Bool.not_false, Bool.and_true, Bool.true_and, nmL_vi, flV_len, flP_len, flV_nm, flV_ok, flV_pv, flP_map, drop_flP, drop_flV, putC_flV, eqV2, eqV3, bneT, bneF, decide_true, decide_false, frzL_vi, frzL_flV, nmE_ag, nmE_at, frzE_ag, frzE_at, ofAg_len, ofAt_len, atL_vi, nmL_map_p, frzL_map_p, okL_p, toPVs_p, repsZ, nmL_reps, putC_vi, get_flV0, get_flV1, Int.toNat_zero, Int.toNat_one, Int.reduceToNat, eqV_slice, eqV_ptr, eqV_func, nilS, nilP, nilF, nmL_append, true_or, or_true, and_self, true_and, and_true, Option.some.injEq, reduceCtorEq, false_or, or_false, VV.p.injEq, PV.at.injEq, Value.int.injEq, sl1, vi, bl1, vb, nilV, sl1])
      (all_goals first | rfl | omega | exact ⟨rfl, by omega⟩)
    rintro k2 s ⟨hk2, hs⟩
    simp only [inV, PT.set, mkB]
    (repeat (first | refine VC.seq ?_ | refine VC.block ?_ | refine VC.kill ?_ | refine VC.skip ?_ | refine VC.exit ?_ | refine VC.regA ?_ | refine VC.condT ?_ | refine VC.condF ?_))
    have hTl := hTl s
    refine VC.condA ?_ ?_ <;> intro h' <;> (simp only [decide_eq_true_eq, decide_eq_false_iff_not, bne_iff_ne, ne_eq, bne_eq_false_iff_eq, beq_iff_eq, beq_eq_false_iff_ne, Bool.not_eq_true', Bool.not_eq_false', Bool.and_eq_true, Bool.or_eq_true, Int.natCast_inj] at h')
    · have h' : s < X.length := by omega
      have hs2 : s < A.length := by rw [hql]; exact h'
      have hTg := hTg (s := s) hs2
      have hTs := hTs (s := s) hs2
      have hq := hqb _ (List.getElem_mem hs2)
      have hx := hxb _ (List.getElem_mem h')
      generalize addT A X s = Y at *
      have hYl : s < Y.length := by omega
      have hYs : Y[s] = A[s]'hs2 := by
        rw [List.getElem?_eq_getElem hYl] at hTg
        exact Option.some.inj hTg
      rw [← hYs] at hTs hq
      clear hTg hTe hT0
      (repeat (first | refine VC.seq ?_ | refine VC.block ?_ | refine VC.kill ?_ | refine VC.skip ?_ | refine VC.exit ?_ | refine VC.regA ?_ | refine VC.condT ?_ | refine VC.condF ?_))
      refine ⟨_, s + 1, ?_, ⟨rfl, by omega⟩, ?_⟩
      · omega
      · rw [← hTs]
        (apply Go.Ab.V.G.weak; constructor <;> simp (config := {decide := true}) only [PT.Le, inV, mkB, PT.set, VSt.kill, VSt.adopt, VSt.alloc, PT.filt, PT.map, List.map_cons, List.map_nil, noref, norefB, deadB, deadV, nos, nm, nmL, nmB, nmE, Pa.eqb, cond_true, cond_false, Bool.not_true, Bool.not_false, Bool.and_true, Bool.true_and, nmL_vi, flV_len, flP_len, flV_nm, flV_ok, flV_pv, flP_map, drop_flP, drop_flV, putC_flV, eqV2, eqV3, bneT, bneF, decide_true, decide_false, frzL_vi, frzL_flV, nmE_ag, nmE_at, frzE_ag, frzE_at, ofAg_len, ofAt_len, atL_vi, nmL_map_p, frzL_map_p, okL_p, toPVs_p, repsZ, nmL_reps, putC_vi, get_flV0, get_flV1, Int.toNat_zero, Int.toNat_one, Int.reduceToNat, eqV_slice, eqV_ptr, eqV_func, nilS, nilP, nilF, nmL_append, true_or, or_true, and_self, true_and, and_true, Option.some.injEq, reduceCtorEq, false_or, or_false, VV.p.injEq, PV.at.injEq, Value.int.injEq, sl1, vi, bl1, vb, nilV, sl1])
        (all_goals first | rfl | omega | exact ⟨rfl, by omega⟩)
    · have h' : s = A.length := by omega
      have hE : addT A X s = avS (byO c) c.ships.length (O.take (i + 1)) := by rw [h', hTe, hsn]
      rw [hE]
      (repeat (first | refine VC.seq ?_ | refine VC.block ?_ | refine VC.kill ?_ | refine VC.skip ?_ | refine VC.exit ?_ | refine VC.regA ?_ | refine VC.condT ?_ | refine VC.condF ?_))
      refine ⟨_, i + 1, ?_, ⟨rfl, by omega⟩, ?_⟩
      · omega
      · (apply Go.Ab.V.G.weak; constructor <;> simp (config := {decide := true}) only [PT.Le, inV, mkB, PT.set, VSt.kill, VSt.adopt, VSt.alloc, PT.filt, PT.map, List.map_cons, List.map_nil, noref, norefB, deadB, deadV, nos, nm, nmL, nmB, nmE, Pa.eqb, cond_true, cond_false, Bool.not_true, Bool.not_false, Bool.and_true, Bool.true_and, nmL_vi, flV_len, flP_len, flV_nm, flV_ok, flV_pv, flP_map, drop_flP, drop_flV, putC_flV, eqV2, eqV3, bneT, bneF, decide_true, decide_false, frzL_vi, frzL_flV, nmE_ag, nmE_at, frzE_ag, frzE_at, ofAg_len, ofAt_len, atL_vi, nmL_map_p, frzL_map_p, okL_p, toPVs_p, repsZ, nmL_reps, putC_vi, get_flV0, get_flV1, Int.toNat_zero, Int.toNat_one, Int.reduceToNat, eqV_slice, eqV_ptr, eqV_func, nilS, nilP, nilF, nmL_append, true_or, or_true, and_self, true_and, and_true, Option.some.injEq, reduceCtorEq, false_or, or_false, VV.p.injEq, PV.at.injEq, Value.int.injEq, sl1, vi, bl1, vb, nilV, sl1])
        (all_goals first | rfl | omega | exact ⟨rfl, by omega⟩)
  · have hi2 : i = O.length := by omega
    have hend := hend hi2
    have hA : avN (byO c) c.ships.length O = A.map fun x => nrm x.toNat O.length := by unfold avN; rw [hend]
    obtain ⟨W, hW⟩ : ∃ W, W = frI (avN (byO c) c.ships.length O) := ⟨_, rfl⟩
    have hWl : W.length = A.length := by rw [hW, hA]; simp [frI]
    have hWg : ∀ i (hi : i < W.length) (hi2 : i < A.length), W[i] = (((nrm A[i].toNat O.length).1 : Int), ((nrm A[i].toNat O.length).2 : Int)) := fun i hi hi2 => by
      subst hW
      simp [frI, hA]
    rw [← hW]
    clear hW hA
    (repeat (first | refine VC.seq ?_ | refine VC.block ?_ | refine VC.kill ?_ | refine VC.skip ?_ | refine VC.exit ?_ | refine VC.regA ?_ | refine VC.condT ?_ | refine VC.condF ?_))
    refine VC.loopG (fun (j : Nat) => ⟨inV [p3, p4, p8, p9] [.p (.sl 1 O.length (O.map encP)), .os 1 p17 c.ships.length, .os 2 p63 j, vi j] .lf, mkB [(p17, .cells (A.map vi)), (p63, .cells (flV (W.take j)))] .lf, [], none⟩) (fun k j => k = c.ships.length - j ∧ j ≤ c.ships.length) (x := 0) ?_ ⟨rfl, Nat.zero_le _⟩ ?_
    · refine G.adoptA (p := p8) 2 p63 ?_
      (apply Go.Ab.V.G.weak; constructor <;> simp (config := {decide := true}) only [PT.Le, inV, mkB, PT.set, VSt.kill, VSt.adopt, VSt.alloc, PT.filt, PT.map, List.map_cons, List.map_nil, noref, norefB, deadB, deadV, nos, nm, nmL, nmB, nmE, Pa.eqb, cond_true, cond_false, Bool.not_true, Bool.not_false, Bool.and_true, Bool.true_and, nmL_vi, flV_len, flP_len, flV_nm, flV_ok, flV_pv, flP_map, drop_flP, drop_flV, putC_flV, eqV2, eqV3, bneT, bneF, decide_true, decide_false, frzL_vi, frzL_flV, nmE_ag, nmE_at, frzE_ag, frzE_at, ofAg_len, ofAt_len, atL_vi, nmL_map_p, frzL_map_p, okL_p, toPVs_p, repsZ, nmL_reps, putC_vi, get_flV0, get_flV1, Int.toNat_zero, Int.toNat_one, Int.reduceToNat, eqV_slice, eqV_ptr, eqV_func, nilS, nilP, nilF, nmL_append, true_or, or_true, and_self, true_and, and_true, Option.some.injEq, reduceCtorEq, false_or, or_false, VV.p.injEq, PV.at.injEq, Value.int.injEq, sl1, vi, bl1, vb, nilV, vi, List.take_zero, flV])
      rfl
    rintro k j ⟨hk, hj⟩
    simp only [inV, PT.set, mkB]
    have hll : (flV (W.take j)).length = j * 2 := by rw [flV_len, List.length_take]; omega
    have hn2 := flV_nm (W.take j)
    have htk : ∀ h : j < W.length, flV (W.take (j + 1)) = flV (W.take j) ++ [vi W[j].1, vi W[j].2] := fun h => by rw [List.take_add_one, List.getElem?_eq_getElem h]; exact flV_snoc _ _ _
    have hfz2 : j = W.length → flV (W.take j) = flV W := fun e => by rw [e, List.take_length]
    generalize flV (W.take j) = Z at *
    (repeat (first | refine VC.seq ?_ | refine VC.block ?_ | refine VC.kill ?_ | refine VC.skip ?_ | refine VC.exit ?_ | refine VC.regA ?_ | refine VC.condT ?_ | refine VC.condF ?_))
    refine VC.condA ?_ ?_ <;> intro h' <;> (simp only [decide_eq_true_eq, decide_eq_false_iff_not, bne_iff_ne, ne_eq, bne_eq_false_iff_eq, beq_iff_eq, beq_eq_false_iff_ne, Bool.not_eq_true', Bool.not_eq_false', Bool.and_eq_true, Bool.or_eq_true, Int.natCast_inj] at h')
    · have h' : j < c.ships.length := by omega
      have hi2 : j < A.length := by rw [hq2]; exact h'
      have hi3 : j < W.length := by rw [hWl]; exact hi2
      have htk := htk hi3
      have hb := hqb _ (List.getElem_mem hi2)
      have k1 := fraction_ok A[j].toNat O.length (by omega) (by omega) hLp
      rw [Int.toNat_of_nonneg hb.1] at k1
      rw [hWg j hi3 hi2] at htk
      (repeat (first | refine VC.seq ?_ | refine VC.block ?_ | refine VC.kill ?_ | refine VC.skip ?_ | refine VC.exit ?_ | refine VC.regA ?_ | refine VC.condT ?_ | refine VC.condF ?_))
      refine VC.regCA ?_
      refine VO.moreA ?_
      refine VO.call0A (no_orc 59 (by decide)) k1 ?_
      apply VO.upto
      · (simp (config := {decide := false, maxSteps := 1000000}) (disch := omega) only [vev_call, putC_c0, putC_n0, putC_cs, ble0, List.getElem?_cons_zero, List.getElem?_cons_succ, runU, isCall, wantV, vev, evV, ofVal, ofAtom, atomB, cond_true, cond_false, PT.get, PT.set, PT.filt, PT.map, Option.getD_some, Option.getD_none, ret1V, ret1X, v_ld, v_ias, v_iad, v_fad, v_slsl, v_slarr, v_st, v_app, v_cpy, v_clr, v_len, v_look, v_mset, elsV, partV, newV, free, atV, atI, atL, toVal, cellsV, okV, VSt.put, VSt.kill, VSt.alloc, VSt.frz, VSt.adopt, noref, norefB, deadB, deadV, nos, nm, nmL, nmB, nmE, Pa.eqb, Bool.not_false, Bool.not_true, Bool.and_true, Bool.true_and, Bool.false_and, Bool.and_false, bin, intOps, intBin, cvt, un, goInt, bndsV, bndV, Option.map_some, Option.map_none, List.map_cons, List.map_nil, Int.toNat_natCast, Nat.mul_one, Nat.zero_add, beq_true, beq_false, beq_self_eq_true, List.length_map, List.length_cons, List.length_nil, List.length_append, fillV, pEvV, repsV, List.append_nil, List.nil_append, if_pos, if_neg, reduceIte, List.getElem?_map, List.getElem?_drop, Nat.add_zero, List.getElem?_eq_getElem, Go.IntWalk.i64_in, wrap_u64, tmod_pos, eq_self, true_and, and_true, and_self, List.all_cons, List.all_nil, nmL_vi, flV_len, flP_len, flV_nm, flV_ok, flV_pv, flP_map, drop_flP, drop_flV, putC_flV, eqV2, eqV3, bneT, bneF, decide_true, decide_false, frzL_vi, frzL_flV, nmE_ag, nmE_at, frzE_ag, frzE_at, ofAg_len, ofAt_len, atL_vi, nmL_map_p, frzL_map_p, okL_p, toPVs_p, repsZ, nmL_reps, putC_vi, get_flV0, get_flV1, Int.toNat_zero, Int.toNat_one, Int.reduceToNat, eqV_slice, eqV_ptr, eqV_func, nilS, nilP, nilF, nmL_append, okL_vi, toPVs_vi, toPVs, toPV, frzV, frzL, frzB, resVV, vi, vb, nilV, sl1, bl1, pi, foldV, max2, min2, max_eq, min_eq, Int.tdiv_eq_ediv_of_nonneg, Int.cast_ofNat_Int, Option.isSome_none, Option.isSome_some, Option.isNone_none, Option.isNone_some, and_false, false_and, sl2, sl1P, slP, min_cast, take_map_pi, map_pi, Nat.sub_zero, Nat.zero_mul, List.length_take, decide_eq_true, decide_eq_false, Bool.true_eq_false, Bool.false_eq_true, beqT, beqF, ibeq, ibne, List.take_zero, List.take_succ_cons, List.drop_zero, List.drop_succ_cons, List.drop_nil, List.take_nil, List.cons_append, Bool.not_true, Bool.not_false, hll, hn2])
        rfl
      refine VO.nil ?_
      (repeat (first | refine VC.seq ?_ | refine VC.block ?_ | refine VC.kill ?_ | refine VC.skip ?_ | refine VC.exit ?_ | refine VC.regA ?_ | refine VC.condT ?_ | refine VC.condF ?_))
      refine ⟨_, j + 1, ?_, ⟨rfl, by omega⟩, ?_⟩
      · omega
      · (apply Go.Ab.V.G.weak; constructor <;> simp (config := {decide := true}) only [PT.Le, inV, mkB, PT.set, VSt.kill, VSt.adopt, VSt.alloc, PT.filt, PT.map, List.map_cons, List.map_nil, noref, norefB, deadB, deadV, nos, nm, nmL, nmB, nmE, Pa.eqb, cond_true, cond_false, Bool.not_true, Bool.not_false, Bool.and_true, Bool.true_and, nmL_vi, flV_len, flP_len, flV_nm, flV_ok, flV_pv, flP_map, drop_flP, drop_flV, putC_flV, eqV2, eqV3, bneT, bneF, decide_true, decide_false, frzL_vi, frzL_flV, nmE_ag, nmE_at, frzE_ag, frzE_at, ofAg_len, ofAt_len, atL_vi, nmL_map_p, frzL_map_p, okL_p, toPVs_p, repsZ, nmL_reps, putC_vi, get_flV0, get_flV1, Int.toNat_zero, Int.toNat_one, Int.reduceToNat, eqV_slice, eqV_ptr, eqV_func, nilS, nilP, nilF, nmL_append, true_or, or_true, and_self, true_and, and_true, Option.some.injEq, reduceCtorEq, false_or, or_false, VV.p.injEq, PV.at.injEq, Value.int.injEq, sl1, vi, bl1, vb, nilV, htk, vi])
        (all_goals first | rfl | omega | exact ⟨rfl, by omega⟩)
    · have h' : j = W.length := by omega
      have hz := hfz2 h'
      rw [hz]
      subst h'
      (repeat (first | refine VC.seq ?_ | refine VC.block ?_ | refine VC.kill ?_ | refine VC.skip ?_ | refine VC.exit ?_ | refine VC.regA ?_ | refine VC.condT ?_ | refine VC.condF ?_))
      refine VC.ret (Fin.frzA p63 (hb := rfl) (hc := flV_pv _) (Fin.A ?_))
      unfold slP; rfl
end Go.Ab.Dues

namespace Go.Ab.Dues
open Go.Ab.V
set_option maxRecDepth 100000
theorem addL_swap (a b c : List Int) : addL (addL a b) c = addL (addL a c) b := by
  unfold addL
  apply List.ext_getElem
  · simp only [List.length_zipWith]; omega
  · intro i h1 h2
    simp only [List.getElem_zipWith]; omega
theorem avS_perm (g : List Nat → List Int) (n : Nat) {L L' : List (List Nat)} (h : L.Perm L') : avS g n L = avS g n L' := by
  unfold avS
  generalize List.replicate n (0 : Int) = a
  induction h generalizing a with
  | nil => rfl
  | cons x _ ih => exact ih _
  | swap x y l => simp only [List.foldl_cons]; rw [addL_swap]
  | trans _ _ ih1 ih2 => exact (ih1 a).trans (ih2 a)
theorem avN_perm (g : List Nat → List Int) (n : Nat) {L L' : List (List Nat)} (h : L.Perm L') : avN g n L = avN g n L' := by
  unfold avN; rw [avS_perm g n h, h.length_eq]
theorem avN_len {g : List Nat → List Int} {n : Nat} {L : List (List Nat)} (h : ∀ l ∈ L, (g l).length = n) : (frI (avN g n L)).length = n := by
  simp only [frI, avN, List.length_map]; exact avS_len h
set_option maxHeartbeats 8000000 in
theorem averages_law (c0 : Can) (h1 : c0.up.length ≤ 9223372036854775807) (h2 : c0.cost.length ≤ 9223372036854775807) (h3 : c0.ships.length ≤ 9223372036854775807) : VCall cfg 7 [canV c0] [] [] (vb true) [] := by
  have k1 := tame_ok c0 6 (by decide) h1 h2 h3
  have h := tame_okC c0 6 (by decide)
  have h6 : (tameC c0 6).ships.length ≤ 6 := by unfold tameC; simp only [shipT_len]; omega
  generalize tameC c0 6 = c at *
  have h7 := h.s7
  have h10 := h.n10
  have hcl := h.cl
  have k2 := given_ok c (by omega) (by omega) (by omega)
  have k3 := Average_ok c h
  have k4 := RAverage_ok c h h6
  rw [← avN_perm (byO c) c.ships.length (outs_perm h6)] at k4
  have hl : (frI (avN (byO c) c.ships.length (outs c.ships.length c.ships.length []))).length = c.ships.length := avN_len fun l hl => by
    rw [byO_len]; have := (outs_mem (fun s hs => by cases hs) hl).1; simpa using this
  unfold avgN at k3
  generalize frI (avN (byO c) c.ships.length (outs c.ships.length c.ships.length [])) = A at *
  have k5 := Same_ok A A (by omega)
  rw [decide_eq_true rfl] at k5
  unfold canV at *
  (refine VCall.mk (fn := a7) rfl rfl rfl ?_; simp only [a7, inV, mkB, nmsL, PT.set])
  (repeat (first | refine VC.seq ?_ | refine VC.block ?_ | refine VC.kill ?_ | refine VC.skip ?_ | refine VC.exit ?_ | refine VC.regA ?_ | refine VC.condT ?_ | refine VC.condF ?_))
  (refine VC.regCA ?_; refine VO.moreA ?_; refine VO.call0A (no_orc _ (by decide)) k1 ?_; refine VO.endA ?_; (repeat (first | refine VC.seq ?_ | refine VC.block ?_ | refine VC.kill ?_ | refine VC.skip ?_ | refine VC.exit ?_ | refine VC.regA ?_ | refine VC.condT ?_ | refine VC.condF ?_)))
  (refine VC.regCA ?_; refine VO.moreA ?_; refine VO.call0A (no_orc _ (by decide)) k2 ?_)
  (refine VO.moreA ?_; refine VO.call0A (no_orc _ (by decide)) k3 ?_)
  (refine VO.endA ?_; (repeat (first | refine VC.seq ?_ | refine VC.block ?_ | refine VC.kill ?_ | refine VC.skip ?_ | refine VC.exit ?_ | refine VC.regA ?_ | refine VC.condT ?_ | refine VC.condF ?_)))
  refine VC.regCA ?_
  refine VO.moreA ?_
  refine VO.call0A (no_orc 36 (by decide)) k4 ?_
  (refine VO.moreA ?_; refine VO.call0A (no_orc _ (by decide)) k5 ?_)
  refine VO.moreA ?_
  refine VO.knownA (.bool true) rfl ?_
  refine VO.endA ?_
  (repeat (first | refine VC.seq ?_ | refine VC.block ?_ | refine VC.kill ?_ | refine VC.skip ?_ | refine VC.exit ?_ | refine VC.regA ?_ | refine VC.condT ?_ | refine VC.condF ?_))
  exact VC.ret (Fin.A rfl)
end Go.Ab.Dues

namespace Go.Proofs.YtdjpaifhmiocnaaDoor.duesAverages
open Go.ChangeShapes Go.WideShapes Go.ChangeAt Go.RowKit
open Go.ChangeMaps (open_string shut_string)
open Go.Ab Go.Ab.V Go.Ab.Dues
set_option linter.unusedVariables false
theorem own : ownKnob Tryd.prog.godebug = none := by kernel_rfl
theorem laidOut : laidOutB Tryd.prog = true := by kernel_rfl
theorem orc : OrcOK Tryd.prog cfg := orcOK mixed tab0 (fun h => by cases h) rfl awake_closed
theorem tab : TabOK Tryd.prog cfg := tab0
set_option maxRecDepth 100000 in
theorem lifted (os : Os) (started : os.Started) (H : Type) (enc : TypeId × Value → H) :
    ReturnsInHanded {} Tryd.checked os 7 .any (fun w args => (Rows.duesAveragesSpec.pre enc Tryd.prog Tryd.f7 Rows.duesAveragesRow.domain false w args ∧ laidMetH Tryd.prog Rows.duesAveragesRow.laid w) ∧ sizedMet enc Tryd.prog Tryd.f7 (OpenSpec.ofChange Rows.duesAveragesSpec) false w args) (Rows.duesAveragesSpec.post enc Tryd.prog Tryd.f7 false true false false) := by
  refine returnsInHanded_of_change_and (C := Tryd.checked) (X := fun w _ => laidMetH Tryd.prog Rows.duesAveragesRow.laid w) (fun _ _ _ hh h => h.of_heap hh) own started (by kernel_rfl) Tryd.func7
    (ChangeSpec.witness_at (enc := enc) (C := Tryd.checked) (os := os) (X := fun w _ => laidMetH Tryd.prog Rows.duesAveragesRow.laid w) false (laidWorld os) #[.agg #[.slice none 0 0, .slice none 0 0, .slice none 0 0]] 8 rfl (by kernel_rfl) (by kernel_rfl) (by kernel_rfl) (by kernel_rfl) (by kernel_rfl) (laidWorld_met os _)) ?_
  intro W base args ds gs before hval0 hW hcnd _ hL _
  have hval : ∀ (j : Nat) t v, Tryd.f7.params[j]? = some t → args[j]? = some v → Value.okWide Tryd.prog W .any base t v := hval0
  have hW' := hW
  obtain ⟨p, q, hA0, hV, rfl, hfz, hnd⟩ := hW
  have hA : DataW.TrodAll enc Tryd.prog W 0 (fun _ => true) true Tryd.f7.params.toList args.toList ds p := hA0
  rw [Tryd.params7] at hA hval
  obtain ⟨v0, vs0, d0, ds0, p0, q0, hargs, rfl, rfl, h0, r0⟩ := trodAll_cons hA
  obtain ⟨rfl, rfl, rfl⟩ := trodAll_nil r0
  obtain rfl : args = #[v0] := by cases args; simp_all
  obtain ⟨rfl, rfl⟩ := trodVars_none hV
  obtain ⟨c0, rfl⟩ := V.okWide_st Tryd.underlying24 (hval 0 24 v0 rfl rfl)
  have k0 := h0
  have lt0 : ∀ x ∈ p0, x.block < W.heap.size := by obtain ⟨m, hm⟩ := k0; exact DataW.trod_lt m _ _ _ hm
  have lv0 : V.Leaves Tryd.prog 24 [.sl [.int .i64], .sl [.int .i64], .sl [.int .i64]] := (.st Tryd.underlying24 (.cons rfl (.sl Tryd.underlying22 (.int Tryd.underlying3) (by kernel_rfl) (by simp)) (by kernel_rfl) (.cons rfl (.sl Tryd.underlying22 (.int Tryd.underlying3) (by kernel_rfl) (by simp)) (by kernel_rfl) (.cons rfl (.sl Tryd.underlying22 (.int Tryd.underlying3) (by kernel_rfl) (by simp)) (by kernel_rfl) .nil))) (by kernel_rfl))
  obtain ⟨ds0_0, wt0_0, zr0, zv0⟩ := V.arg_agg (show V.OpenR W [.sl [.int .i64], .sl [.int .i64], .sl [.int .i64]] c0.toList from by obtain ⟨fuel, hf⟩ := h0; exact V.open_all lv0 hf)
  obtain ⟨z0_0, ds0_1, eq0_0, zl0_0, zb0_0, wt0_1⟩ := V.wt_sl1 wt0_0
  obtain ⟨z0_1, ds0_2, eq0_1, zl0_1, zb0_1, wt0_2⟩ := V.wt_sl1 wt0_1
  obtain ⟨z0_2, ds0_3, eq0_2, zl0_2, zb0_2, wt0_3⟩ := V.wt_sl1 wt0_2
  rw [eq0_0, eq0_1, eq0_2, V.wt_nil wt0_3] at zv0
  clear hA0 hval0
  refine (calls_true mixed tab orc (averages_law ⟨_, _, _⟩ zl0_0 zl0_1 zl0_2) (hgl := glob_of_laid hL) (All2.cons zv0 .nil) (LR.cons zr0 (LR.nil _))).mono fun e W' ⟨he, bel⟩ => ?_
  subst he
  exact ⟨_, rfl, _, _, _, [], _, [], hW', trodAll_mk1 (shut_bool Tryd.underlying4 _), (trodAll_cons_mk (Below.trod laidOut (by kernel_rfl) (of_decide_eq_true (by kernel_rfl)) k0 bel lt0) trodAll_mk0), rfl, bel.frame _, fun h => by cases h⟩
theorem over : Rows.duesAveragesRow.holds Tryd.pinned (OpenSpec.ofChange Rows.duesAveragesSpec) :=
  OpenClaim.holds_of_wide 7 Tryd.f7 rfl rfl rfl rfl rfl rfl rfl ⟨rfl, rfl, rfl, rfl, rfl⟩ rfl rfl rfl rfl rfl (by kernel_rfl) Tryd.func7 (by kernel_rfl)
    (of_decide_eq_true (by kernel_rfl)) (by unfold Func.isWrapper; first | (rw [if_pos (by decide +kernel)]; kernel_rfl) | (rw [if_neg (by decide +kernel)]; exact ⟨rfl, rfl⟩))
    (fun os started H enc _ => lifted os started H enc)
theorem card : Rows.DuesAveragesCardSaid :=
  Claim7.holds_tied_plain_at .later [] Rows.duesAveragesCard.laidKinds true Rows.duesAveragesCard.stood.harness false
    over (fun _ h => by cases h) (by kernel_rfl) (fun _ h => by cases h) duesAverages_row_tie rfl ⟨rfl, rfl⟩ (by kernel_rfl) rfl
    (fun f fn hf hfn => by
      obtain rfl : f = 7 := Option.some.inj ((show Tryd.prog.funcNamed Rows.duesAveragesRow.func = some 7 by kernel_rfl).symm.trans hf) |>.symm
      obtain rfl : fn = Tryd.f7 := (Option.some.inj (Tryd.func7.symm.trans hfn)).symm
      exact ⟨by kernel_rfl, fun j t ht => by
        rw [Tryd.params7] at ht
        have h3 : t = 24 := by
          have hm : t ∈ [24] := List.mem_of_getElem? (by simpa using ht)
          simpa using hm
        rcases h3 with rfl
        · exact (show Tryd.prog.wantsStandIn 24 = false by kernel_rfl)⟩)
    (by kernel_rfl)
theorem proved : Rows.DuesAveragesCardSaid := card
end Go.Proofs.YtdjpaifhmiocnaaDoor.duesAverages
namespace Go.Proofs.YtdjpaifhmiocnaaDoor
/-- The row, under a short name, for the claim. -/
theorem duesAverages_holds : Rows.DuesAveragesCardSaid := duesAverages.proved
end Go.Proofs.YtdjpaifhmiocnaaDoor
