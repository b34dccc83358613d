/- A part of the proof of a law: an evaluator of the code, proved sound against the model, and contracts of functions over it. No condition. -/
import Derived.Test.YtdjpaifhmiocnaaDoorA04
set_option linter.unusedSimpArgs false
set_option linter.unusedVariables false
namespace Go.Ab.Dues
open Go.Ab.V
set_option maxRecDepth 100000
theorem fl_nm (c : Can) (nd : List Nat) (m : Pa) : nmL (flC c nd m) = [m] := by
  unfold flC
  simp only [nmL, nmL_append, nmL_nat, nm, sl1, List.nil_append, List.append_nil]
theorem es_nm : ∀ M : List (Nat × Int), nmE (esM M) = []
  | [] => rfl
  | q :: M => by show nm (vi q.2) ++ nmE (esM M) = []; rw [es_nm M]; rfl
theorem fl_frz (c : Can) (nd : List Nat) (m a : Pa) (cs : List PV) : frzL a cs (flC c nd m) = flC c nd m := by
  rw [frzL_eq]
  simp [flC, frzV, sl1, vi]
theorem es_frz (a : Pa) (cs : List PV) (M : List (Nat × Int)) : ((esM M).map fun e => (e.1, frzV a cs e.2)) = esM M := by
  unfold esM; rw [List.map_map]
  exact List.map_congr_left fun e _ => rfl
set_option maxHeartbeats 8000000 in
theorem cost_ok (c : Can) (h : okC c) (M : List (Nat × Int)) (hM : okM c M) (S : Nat) (hS : S < 2 ^ c.ships.length) :
    VCall cfg 68 [.op 0 p16 0, vi S] [(p16, .cells (flC c (needK c c.ships.length) p14)), (p14, .map (esM M))] [] (vi (costS c S)) [(p16, .cells (flC c (needK c c.ships.length) p14)), (p14, .map (esM (memo c M S)))] := by
  have h7 := h.s7
  have hS7 : S < 1024 := Nat.lt_of_lt_of_le hS (show 2 ^ c.ships.length ≤ 2 ^ 10 from Nat.pow_le_pow_right (by decide) (by omega))
  have hnl := needK_len c c.ships.length
  have hPl := pieces_lt h c.ships.length S
  have hmap := fl_map c (needK c c.ships.length) p14 hnl
  have hfind := find_esM c M S hM
  have hkey := keyI S S
  rw [decide_eq_true rfl] at hkey
  have hcs : costS c S = costP c.cost (pieces (needK c c.ships.length) S) := rfl
  have hfl1 : ∀ nd m, (flC c nd m)[1]? = some (sl1 c.cost) := fun _ _ => rfl
  have hndlt := needK_lt h c.ships.length
  have hpb : ∀ p ∈ bitsN (pieces (needK c c.ships.length) S), p < c.cost.length := fun p hp => by
    obtain ⟨s, _, hs⟩ := pieces_bit.1 (bitsN_mem.1 hp).2
    have := needK_bit h hs
    rw [h.cl]; exact this
  generalize hND : needK c c.ships.length = nd at *
  have hP := members_ok (pieces nd S) hPl
  (refine VCall.mk (fn := a68) rfl rfl rfl ?_; simp only [a68, inV, mkB, nmsL, PT.set])
  cases hany : M.any (fun q => decide (q.1 = S)) with
  | true =>
    rw [hany] at hfind
    simp only [if_true] at hfind
    have hmm : memo c M S = M := by unfold memo; rw [if_pos hany]
    rw [hmm]
    (repeat (first | refine VC.seq ?_ | refine VC.block ?_ | refine VC.kill ?_ | refine VC.skip ?_ | refine VC.exit ?_ | refine VC.regA ?_ | refine VC.condT ?_ | refine VC.condF ?_))
    ((try (apply VC.regU; · ((simp (config := {decide := false, maxSteps := 1000000}) (disch := omega) only [vev_call, putC_c0, putC_n0, putC_cs, ble0, List.getElem?_cons_zero, List.getElem?_cons_succ, runU, isCall, wantV, vev, evV, ofVal, ofAtom, atomB, cond_true, cond_false, PT.get, PT.set, PT.filt, PT.map, Option.getD_some, Option.getD_none, ret1V, ret1X, v_ld, v_ias, v_iad, v_fad, v_slsl, v_slarr, v_st, v_app, v_cpy, v_clr, v_len, v_look, v_mset, elsV, partV, newV, free, atV, atI, atL, toVal, cellsV, okV, VSt.put, VSt.kill, VSt.alloc, VSt.frz, VSt.adopt, noref, norefB, deadB, deadV, nos, nm, nmL, nmB, nmE, Pa.eqb, Bool.not_false, Bool.not_true, Bool.and_true, Bool.true_and, Bool.false_and, Bool.and_false, bin, intOps, intBin, cvt, un, goInt, bndsV, bndV, Option.map_some, Option.map_none, List.map_cons, List.map_nil, Int.toNat_natCast, Nat.mul_one, Nat.zero_add, beq_true, beq_false, beq_self_eq_true, List.length_map, List.length_cons, List.length_nil, List.length_append, fillV, pEvV, repsV, List.append_nil, List.nil_append, if_pos, if_neg, reduceIte, List.getElem?_map, List.getElem?_drop, Nat.add_zero, List.getElem?_eq_getElem, Go.IntWalk.i64_in, wrap_u64, tmod_pos, eq_self, true_and, and_true, and_self, List.all_cons, List.all_nil, nmL_vi, flV_len, flP_len, flV_nm, flV_ok, flV_pv, flP_map, drop_flP, drop_flV, putC_flV, eqV2, eqV3, bneT, bneF, decide_true, decide_false, frzL_vi, frzL_flV, nmE_ag, nmE_at, frzE_ag, frzE_at, ofAg_len, ofAt_len, atL_vi, nmL_map_p, frzL_map_p, okL_p, toPVs_p, repsZ, nmL_reps, putC_vi, get_flV0, get_flV1, Int.toNat_zero, Int.toNat_one, Int.reduceToNat, eqV_slice, eqV_ptr, eqV_func, nilS, nilP, nilF, nmL_append, okL_vi, toPVs_vi, toPVs, toPV, frzV, frzL, frzB, resVV, vi, vb, nilV, sl1, bl1, pi, foldV, max2, min2, max_eq, min_eq, Int.tdiv_eq_ediv_of_nonneg, Int.cast_ofNat_Int, Option.isSome_none, Option.isSome_some, Option.isNone_none, Option.isNone_some, and_false, false_and, sl2, sl1P, slP, min_cast, take_map_pi, map_pi, Nat.sub_zero, Nat.zero_mul, List.length_take, decide_eq_true, decide_eq_false, Bool.true_eq_false, Bool.false_eq_true, beqT, beqF, ibeq, ibne, List.take_zero, List.take_succ_cons, List.drop_zero, List.drop_succ_cons, List.drop_nil, List.take_nil, List.cons_append, Bool.not_true, Bool.not_false, hmap, hfind, hkey]); rfl))); (repeat (first | refine VC.seq ?_ | refine VC.block ?_ | refine VC.kill ?_ | refine VC.skip ?_ | refine VC.exit ?_ | refine VC.regA ?_ | refine VC.condT ?_ | refine VC.condF ?_)))
    refine VC.ret (Fin.of rfl rfl ?_ rfl rfl ?_)
    · simp [mkB, PT.set, PT.Le, VSt.kill]
    · simp [subs, nm, nmL, nmsB, nmB, es_nm, fl_nm, nos, Pa.eqb, vi, sl1]
  | false =>
    rw [hany] at hfind
    simp only [Bool.false_eq_true, if_false] at hfind
    have hk := members_ok S hS7
    (repeat (first | refine VC.seq ?_ | refine VC.block ?_ | refine VC.kill ?_ | refine VC.skip ?_ | refine VC.exit ?_ | refine VC.regA ?_ | refine VC.condT ?_ | refine VC.condF ?_))
    ((try (apply VC.regU; · ((simp (config := {decide := false, maxSteps := 1000000}) (disch := omega) only [vev_call, putC_c0, putC_n0, putC_cs, ble0, List.getElem?_cons_zero, List.getElem?_cons_succ, runU, isCall, wantV, vev, evV, ofVal, ofAtom, atomB, cond_true, cond_false, PT.get, PT.set, PT.filt, PT.map, Option.getD_some, Option.getD_none, ret1V, ret1X, v_ld, v_ias, v_iad, v_fad, v_slsl, v_slarr, v_st, v_app, v_cpy, v_clr, v_len, v_look, v_mset, elsV, partV, newV, free, atV, atI, atL, toVal, cellsV, okV, VSt.put, VSt.kill, VSt.alloc, VSt.frz, VSt.adopt, noref, norefB, deadB, deadV, nos, nm, nmL, nmB, nmE, Pa.eqb, Bool.not_false, Bool.not_true, Bool.and_true, Bool.true_and, Bool.false_and, Bool.and_false, bin, intOps, intBin, cvt, un, goInt, bndsV, bndV, Option.map_some, Option.map_none, List.map_cons, List.map_nil, Int.toNat_natCast, Nat.mul_one, Nat.zero_add, beq_true, beq_false, beq_self_eq_true, List.length_map, List.length_cons, List.length_nil, List.length_append, fillV, pEvV, repsV, List.append_nil, List.nil_append, if_pos, if_neg, reduceIte, List.getElem?_map, List.getElem?_drop, Nat.add_zero, List.getElem?_eq_getElem, Go.IntWalk.i64_in, wrap_u64, tmod_pos, eq_self, true_and, and_true, and_self, List.all_cons, List.all_nil, nmL_vi, flV_len, flP_len, flV_nm, flV_ok, flV_pv, flP_map, drop_flP, drop_flV, putC_flV, eqV2, eqV3, bneT, bneF, decide_true, decide_false, frzL_vi, frzL_flV, nmE_ag, nmE_at, frzE_ag, frzE_at, ofAg_len, ofAt_len, atL_vi, nmL_map_p, frzL_map_p, okL_p, toPVs_p, repsZ, nmL_reps, putC_vi, get_flV0, get_flV1, Int.toNat_zero, Int.toNat_one, Int.reduceToNat, eqV_slice, eqV_ptr, eqV_func, nilS, nilP, nilF, nmL_append, okL_vi, toPVs_vi, toPVs, toPV, frzV, frzL, frzB, resVV, vi, vb, nilV, sl1, bl1, pi, foldV, max2, min2, max_eq, min_eq, Int.tdiv_eq_ediv_of_nonneg, Int.cast_ofNat_Int, Option.isSome_none, Option.isSome_some, Option.isNone_none, Option.isNone_some, and_false, false_and, sl2, sl1P, slP, min_cast, take_map_pi, map_pi, Nat.sub_zero, Nat.zero_mul, List.length_take, decide_eq_true, decide_eq_false, Bool.true_eq_false, Bool.false_eq_true, beqT, beqF, ibeq, ibne, List.take_zero, List.take_succ_cons, List.drop_zero, List.drop_succ_cons, List.drop_nil, List.take_nil, List.cons_append, Bool.not_true, Bool.not_false, hmap, hfind, hkey]); rfl))); (repeat (first | refine VC.seq ?_ | refine VC.block ?_ | refine VC.kill ?_ | refine VC.skip ?_ | refine VC.exit ?_ | refine VC.regA ?_ | refine VC.condT ?_ | refine VC.condF ?_)))
    (refine VC.regCA ?_; refine VO.moreA ?_; refine VO.call0A (no_orc _ (by decide)) hk ?_; refine VO.endA ?_; (repeat (first | refine VC.seq ?_ | refine VC.block ?_ | refine VC.kill ?_ | refine VC.skip ?_ | refine VC.exit ?_ | refine VC.regA ?_ | refine VC.condT ?_ | refine VC.condF ?_)))
    have hbl : (bitsL S).length = (bitsN S).length := by simp [bitsL]
    have hacc : ∀ i, ((bitsN S).take i).foldl (fun a s => a ||| nd.getD s 0) 0 < 1024 := fun i => fold_or_lt nd hndlt _ 0 (by decide)
    have hb10 := bitsN_len S
    refine VC.loopG (fun (i : Nat) => ⟨inV [p0, p1, p7, p25, p26, p27] [.op 0 p16 0, vi S, vi (((bitsN S).take i).foldl (fun a s => a ||| nd.getD s 0) 0 : Nat), sl1 (bitsL S), vi (bitsL S).length, vi i] .lf, mkB [(p16, .cells (flC c nd p14)), (p14, .map (esM M))] .lf, [p16, p14], none⟩) (fun n i => n = (bitsN S).length - i ∧ i ≤ (bitsN S).length) (x := 0) ?_ ⟨rfl, Nat.zero_le _⟩ ?_
    · (apply Go.Ab.V.G.weak; constructor <;> simp (config := {decide := true}) only [PT.Le, inV, mkB, PT.set, VSt.kill, VSt.adopt, VSt.alloc, PT.filt, PT.map, List.map_cons, List.map_nil, noref, norefB, deadB, deadV, nos, nm, nmL, nmB, nmE, Pa.eqb, cond_true, cond_false, Bool.not_true, Bool.not_false, Bool.and_true, Bool.true_and, nmL_vi, flV_len, flP_len, flV_nm, flV_ok, flV_pv, flP_map, drop_flP, drop_flV, putC_flV, eqV2, eqV3, bneT, bneF, decide_true, decide_false, frzL_vi, frzL_flV, nmE_ag, nmE_at, frzE_ag, frzE_at, ofAg_len, ofAt_len, atL_vi, nmL_map_p, frzL_map_p, okL_p, toPVs_p, repsZ, nmL_reps, putC_vi, get_flV0, get_flV1, Int.toNat_zero, Int.toNat_one, Int.reduceToNat, eqV_slice, eqV_ptr, eqV_func, nilS, nilP, nilF, nmL_append, true_or, or_true, and_self, true_and, and_true, Option.some.injEq, reduceCtorEq, false_or, or_false, VV.p.injEq, PV.at.injEq, Value.int.injEq, sl1, vi, bl1, vb, nilV, sl1])
      (all_goals first | rfl | omega | exact ⟨rfl, by omega⟩)
    · rintro n i ⟨hn, hi⟩
      simp only [inV, PT.set, mkB]
      have ha := hacc i
      have hft : ∀ h : i < (bitsN S).length, ((bitsN S).take (i + 1)).foldl (fun a s => a ||| nd.getD s 0) 0 = ((bitsN S).take i).foldl (fun a s => a ||| nd.getD s 0) 0 ||| nd.getD (bitsN S)[i] 0 := fun h => fold_take _ _ _ _ h
      have hend : i = (bitsN S).length → ((bitsN S).take i).foldl (fun a s => a ||| nd.getD s 0) 0 = pieces nd S := fun e => by rw [e, List.take_length]; rfl
      generalize hA : ((bitsN S).take i).foldl (fun a s => a ||| nd.getD s 0) 0 = acc at *
      (repeat (first | refine VC.seq ?_ | refine VC.block ?_ | refine VC.kill ?_ | refine VC.skip ?_ | refine VC.exit ?_ | refine VC.regA ?_ | refine VC.condT ?_ | refine VC.condF ?_))
      refine VC.condA ?_ ?_ <;> intro h' <;> (simp only [decide_eq_true_eq, decide_eq_false_iff_not, bne_iff_ne, ne_eq, bne_eq_false_iff_eq, beq_iff_eq, beq_eq_false_iff_ne, Bool.not_eq_true', Bool.not_eq_false', Bool.and_eq_true, Bool.or_eq_true, Int.natCast_inj] at h')
      · have h' : i < (bitsN S).length := by omega
        have h'' : i < (bitsL S).length := by omega
        have hft := hft h'
        have hg := bitsL_get S i h''
        have hmem := bitsN_mem.1 (List.getElem_mem h')
        have hs7 := bit_lt hS hmem.2
        generalize hs : (bitsN S)[i] = s at *
        have hs' : s < nd.length := by omega
        have hgs := fl_get c nd p14 s hs'
        have hgd : nd.getD s 0 = nd[s] := by rw [List.getD_eq_getElem?_getD, List.getElem?_eq_getElem hs']; rfl
        have hlt := hndlt s
        rw [hgd] at hft hlt
        have hor1 := or_i64 (a := acc) (b := nd[s]) (by omega) (by omega)
        (repeat (first | refine VC.seq ?_ | refine VC.block ?_ | refine VC.kill ?_ | refine VC.skip ?_ | refine VC.exit ?_ | refine VC.regA ?_ | refine VC.condT ?_ | refine VC.condF ?_))
        simp only [hg]
        ((try (apply VC.regU; · ((simp (config := {decide := false, maxSteps := 1000000}) (disch := omega) only [vev_call, putC_c0, putC_n0, putC_cs, ble0, List.getElem?_cons_zero, List.getElem?_cons_succ, runU, isCall, wantV, vev, evV, ofVal, ofAtom, atomB, cond_true, cond_false, PT.get, PT.set, PT.filt, PT.map, Option.getD_some, Option.getD_none, ret1V, ret1X, v_ld, v_ias, v_iad, v_fad, v_slsl, v_slarr, v_st, v_app, v_cpy, v_clr, v_len, v_look, v_mset, elsV, partV, newV, free, atV, atI, atL, toVal, cellsV, okV, VSt.put, VSt.kill, VSt.alloc, VSt.frz, VSt.adopt, noref, norefB, deadB, deadV, nos, nm, nmL, nmB, nmE, Pa.eqb, Bool.not_false, Bool.not_true, Bool.and_true, Bool.true_and, Bool.false_and, Bool.and_false, bin, intOps, intBin, cvt, un, goInt, bndsV, bndV, Option.map_some, Option.map_none, List.map_cons, List.map_nil, Int.toNat_natCast, Nat.mul_one, Nat.zero_add, beq_true, beq_false, beq_self_eq_true, List.length_map, List.length_cons, List.length_nil, List.length_append, fillV, pEvV, repsV, List.append_nil, List.nil_append, if_pos, if_neg, reduceIte, List.getElem?_map, List.getElem?_drop, Nat.add_zero, List.getElem?_eq_getElem, Go.IntWalk.i64_in, wrap_u64, tmod_pos, eq_self, true_and, and_true, and_self, List.all_cons, List.all_nil, nmL_vi, flV_len, flP_len, flV_nm, flV_ok, flV_pv, flP_map, drop_flP, drop_flV, putC_flV, eqV2, eqV3, bneT, bneF, decide_true, decide_false, frzL_vi, frzL_flV, nmE_ag, nmE_at, frzE_ag, frzE_at, ofAg_len, ofAt_len, atL_vi, nmL_map_p, frzL_map_p, okL_p, toPVs_p, repsZ, nmL_reps, putC_vi, get_flV0, get_flV1, Int.toNat_zero, Int.toNat_one, Int.reduceToNat, eqV_slice, eqV_ptr, eqV_func, nilS, nilP, nilF, nmL_append, okL_vi, toPVs_vi, toPVs, toPV, frzV, frzL, frzB, resVV, vi, vb, nilV, sl1, bl1, pi, foldV, max2, min2, max_eq, min_eq, Int.tdiv_eq_ediv_of_nonneg, Int.cast_ofNat_Int, Option.isSome_none, Option.isSome_some, Option.isNone_none, Option.isNone_some, and_false, false_and, sl2, sl1P, slP, min_cast, take_map_pi, map_pi, Nat.sub_zero, Nat.zero_mul, List.length_take, decide_eq_true, decide_eq_false, Bool.true_eq_false, Bool.false_eq_true, beqT, beqF, ibeq, ibne, List.take_zero, List.take_succ_cons, List.drop_zero, List.drop_succ_cons, List.drop_nil, List.take_nil, List.cons_append, Bool.not_true, Bool.not_false, hgs, hor1]); rfl))); (repeat (first | refine VC.seq ?_ | refine VC.block ?_ | refine VC.kill ?_ | refine VC.skip ?_ | refine VC.exit ?_ | refine VC.regA ?_ | refine VC.condT ?_ | refine VC.condF ?_)))
        refine ⟨_, i + 1, ?_, ⟨rfl, by omega⟩, ?_⟩
        · omega
        · (apply Go.Ab.V.G.weak; constructor <;> simp (config := {decide := true}) only [PT.Le, inV, mkB, PT.set, VSt.kill, VSt.adopt, VSt.alloc, PT.filt, PT.map, List.map_cons, List.map_nil, noref, norefB, deadB, deadV, nos, nm, nmL, nmB, nmE, Pa.eqb, cond_true, cond_false, Bool.not_true, Bool.not_false, Bool.and_true, Bool.true_and, nmL_vi, flV_len, flP_len, flV_nm, flV_ok, flV_pv, flP_map, drop_flP, drop_flV, putC_flV, eqV2, eqV3, bneT, bneF, decide_true, decide_false, frzL_vi, frzL_flV, nmE_ag, nmE_at, frzE_ag, frzE_at, ofAg_len, ofAt_len, atL_vi, nmL_map_p, frzL_map_p, okL_p, toPVs_p, repsZ, nmL_reps, putC_vi, get_flV0, get_flV1, Int.toNat_zero, Int.toNat_one, Int.reduceToNat, eqV_slice, eqV_ptr, eqV_func, nilS, nilP, nilF, nmL_append, true_or, or_true, and_self, true_and, and_true, Option.some.injEq, reduceCtorEq, false_or, or_false, VV.p.injEq, PV.at.injEq, Value.int.injEq, sl1, vi, bl1, vb, nilV, sl1, hft])
          (all_goals first | rfl | omega | exact ⟨rfl, by omega⟩)
      · have h' : i = (bitsN S).length := by omega
        have hend := hend h'
        subst hend
        clear hft hacc ha hA
        have hpl : (bitsL (pieces nd S)).length = (bitsN (pieces nd S)).length := by simp [bitsL]
        have hb10 := bitsN_len (pieces nd S)
        have hPg : ∀ (k : Nat) (h : k < (bitsN (pieces nd S)).length), (bitsN (pieces nd S))[k] < c.cost.length := fun k h => hpb _ (List.getElem_mem h)
        have hPi : ∀ (k : Nat) (h : k < (bitsL (pieces nd S)).length) (h2 : k < (bitsN (pieces nd S)).length), (bitsL (pieces nd S))[k] = (((bitsN (pieces nd S))[k] : Nat) : Int) := fun k h _ => bitsL_get _ k h
        (repeat (first | refine VC.seq ?_ | refine VC.block ?_ | refine VC.kill ?_ | refine VC.skip ?_ | refine VC.exit ?_ | refine VC.regA ?_ | refine VC.condT ?_ | refine VC.condF ?_))
        (refine VC.regCA ?_; refine VO.moreA ?_; refine VO.call0A (no_orc _ (by decide)) hP ?_; refine VO.endA ?_; (repeat (first | refine VC.seq ?_ | refine VC.block ?_ | refine VC.kill ?_ | refine VC.skip ?_ | refine VC.exit ?_ | refine VC.regA ?_ | refine VC.condT ?_ | refine VC.condF ?_)))
        clear hk hP hend hpb
        generalize hB : bitsN (pieces nd S) = B at *
        generalize hX : bitsL (pieces nd S) = X at *
        have htk : ∀ (k : Nat) (h : k < B.length), (B.take (k + 1)).map (fun p => c.cost.getD p 0) = (B.take k).map (fun p => c.cost.getD p 0) ++ [c.cost.getD B[k] 0] := fun k h => by rw [List.take_add_one, List.getElem?_eq_getElem h, List.map_append]; rfl
        have hll : ∀ k, k ≤ B.length → ((B.take k).map (fun p => c.cost.getD p 0)).length = k := fun k hk => by rw [List.length_map, List.length_take]; omega
        refine VC.loopG (fun (k : Nat) => ⟨inV [p0, p1, p10, p41, p42, p43] [.op 0 p16 0, vi S, .os 1 p57 k, sl1 X, vi X.length, vi k] .lf, mkB [(p16, .cells (flC c nd p14)), (p14, .map (esM M)), (p57, .cells (((B.take k).map (fun p => c.cost.getD p 0)).map vi))] .lf, [p16, p14], none⟩) (fun n k => n = B.length - k ∧ k ≤ B.length) (x := 0) ?_ ⟨rfl, Nat.zero_le _⟩ ?_
        · refine G.adoptA (p := p10) 1 p57 ?_
          (apply Go.Ab.V.G.weak; constructor <;> simp (config := {decide := true}) only [PT.Le, inV, mkB, PT.set, VSt.kill, VSt.adopt, VSt.alloc, PT.filt, PT.map, List.map_cons, List.map_nil, noref, norefB, deadB, deadV, nos, nm, nmL, nmB, nmE, Pa.eqb, cond_true, cond_false, Bool.not_true, Bool.not_false, Bool.and_true, Bool.true_and, nmL_vi, flV_len, flP_len, flV_nm, flV_ok, flV_pv, flP_map, drop_flP, drop_flV, putC_flV, eqV2, eqV3, bneT, bneF, decide_true, decide_false, frzL_vi, frzL_flV, nmE_ag, nmE_at, frzE_ag, frzE_at, ofAg_len, ofAt_len, atL_vi, nmL_map_p, frzL_map_p, okL_p, toPVs_p, repsZ, nmL_reps, putC_vi, get_flV0, get_flV1, Int.toNat_zero, Int.toNat_one, Int.reduceToNat, eqV_slice, eqV_ptr, eqV_func, nilS, nilP, nilF, nmL_append, true_or, or_true, and_self, true_and, and_true, Option.some.injEq, reduceCtorEq, false_or, or_false, VV.p.injEq, PV.at.injEq, Value.int.injEq, sl1, vi, bl1, vb, nilV, sl1, fl_nm, es_nm])
          (all_goals first | rfl | omega | exact ⟨rfl, by omega⟩)
        rintro n k ⟨hn, hk⟩
        simp only [inV, PT.set, mkB]
        have hlk := hll k hk
        have htk := htk k
        generalize hLL : (B.take k).map (fun p => c.cost.getD p 0) = LL at *
        (repeat (first | refine VC.seq ?_ | refine VC.block ?_ | refine VC.kill ?_ | refine VC.skip ?_ | refine VC.exit ?_ | refine VC.regA ?_ | refine VC.condT ?_ | refine VC.condF ?_))
        refine VC.condA ?_ ?_ <;> intro h2 <;> (simp only [decide_eq_true_eq, decide_eq_false_iff_not, bne_iff_ne, ne_eq, bne_eq_false_iff_eq, beq_iff_eq, beq_eq_false_iff_ne, Bool.not_eq_true', Bool.not_eq_false', Bool.and_eq_true, Bool.or_eq_true, Int.natCast_inj] at h2)
        · have h2 : k < B.length := by omega
          have h3 : k < X.length := by omega
          have hpi := hPi k h3 h2
          have hpg := hPg k h2
          have htk := htk h2
          generalize hp : B[k] = p at *
          have hcd : c.cost.getD p 0 = c.cost[p] := by rw [List.getD_eq_getElem?_getD, List.getElem?_eq_getElem hpg]; rfl
          rw [hcd] at htk
          have hf1 := hfl1 nd p14
          simp only [sl1] at hf1
          (repeat (first | refine VC.seq ?_ | refine VC.block ?_ | refine VC.kill ?_ | refine VC.skip ?_ | refine VC.exit ?_ | refine VC.regA ?_ | refine VC.condT ?_ | refine VC.condF ?_))
          simp only [hpi]
          ((try (apply VC.regU; · ((simp (config := {decide := false, maxSteps := 1000000}) (disch := omega) only [vev_call, putC_c0, putC_n0, putC_cs, ble0, List.getElem?_cons_zero, List.getElem?_cons_succ, runU, isCall, wantV, vev, evV, ofVal, ofAtom, atomB, cond_true, cond_false, PT.get, PT.set, PT.filt, PT.map, Option.getD_some, Option.getD_none, ret1V, ret1X, v_ld, v_ias, v_iad, v_fad, v_slsl, v_slarr, v_st, v_app, v_cpy, v_clr, v_len, v_look, v_mset, elsV, partV, newV, free, atV, atI, atL, toVal, cellsV, okV, VSt.put, VSt.kill, VSt.alloc, VSt.frz, VSt.adopt, noref, norefB, deadB, deadV, nos, nm, nmL, nmB, nmE, Pa.eqb, Bool.not_false, Bool.not_true, Bool.and_true, Bool.true_and, Bool.false_and, Bool.and_false, bin, intOps, intBin, cvt, un, goInt, bndsV, bndV, Option.map_some, Option.map_none, List.map_cons, List.map_nil, Int.toNat_natCast, Nat.mul_one, Nat.zero_add, beq_true, beq_false, beq_self_eq_true, List.length_map, List.length_cons, List.length_nil, List.length_append, fillV, pEvV, repsV, List.append_nil, List.nil_append, if_pos, if_neg, reduceIte, List.getElem?_map, List.getElem?_drop, Nat.add_zero, List.getElem?_eq_getElem, Go.IntWalk.i64_in, wrap_u64, tmod_pos, eq_self, true_and, and_true, and_self, List.all_cons, List.all_nil, nmL_vi, flV_len, flP_len, flV_nm, flV_ok, flV_pv, flP_map, drop_flP, drop_flV, putC_flV, eqV2, eqV3, bneT, bneF, decide_true, decide_false, frzL_vi, frzL_flV, nmE_ag, nmE_at, frzE_ag, frzE_at, ofAg_len, ofAt_len, atL_vi, nmL_map_p, frzL_map_p, okL_p, toPVs_p, repsZ, nmL_reps, putC_vi, get_flV0, get_flV1, Int.toNat_zero, Int.toNat_one, Int.reduceToNat, eqV_slice, eqV_ptr, eqV_func, nilS, nilP, nilF, nmL_append, okL_vi, toPVs_vi, toPVs, toPV, frzV, frzL, frzB, resVV, vi, vb, nilV, sl1, bl1, pi, foldV, max2, min2, max_eq, min_eq, Int.tdiv_eq_ediv_of_nonneg, Int.cast_ofNat_Int, Option.isSome_none, Option.isSome_some, Option.isNone_none, Option.isNone_some, and_false, false_and, sl2, sl1P, slP, min_cast, take_map_pi, map_pi, Nat.sub_zero, Nat.zero_mul, List.length_take, decide_eq_true, decide_eq_false, Bool.true_eq_false, Bool.false_eq_true, beqT, beqF, ibeq, ibne, List.take_zero, List.take_succ_cons, List.drop_zero, List.drop_succ_cons, List.drop_nil, List.take_nil, List.cons_append, Bool.not_true, Bool.not_false, hf1]); rfl))); (repeat (first | refine VC.seq ?_ | refine VC.block ?_ | refine VC.kill ?_ | refine VC.skip ?_ | refine VC.exit ?_ | refine VC.regA ?_ | refine VC.condT ?_ | refine VC.condF ?_)))
          refine ⟨_, k + 1, ?_, ⟨rfl, by omega⟩, ?_⟩
          · omega
          · (apply Go.Ab.V.G.weak; constructor <;> simp (config := {decide := true}) only [PT.Le, inV, mkB, PT.set, VSt.kill, VSt.adopt, VSt.alloc, PT.filt, PT.map, List.map_cons, List.map_nil, noref, norefB, deadB, deadV, nos, nm, nmL, nmB, nmE, Pa.eqb, cond_true, cond_false, Bool.not_true, Bool.not_false, Bool.and_true, Bool.true_and, nmL_vi, flV_len, flP_len, flV_nm, flV_ok, flV_pv, flP_map, drop_flP, drop_flV, putC_flV, eqV2, eqV3, bneT, bneF, decide_true, decide_false, frzL_vi, frzL_flV, nmE_ag, nmE_at, frzE_ag, frzE_at, ofAg_len, ofAt_len, atL_vi, nmL_map_p, frzL_map_p, okL_p, toPVs_p, repsZ, nmL_reps, putC_vi, get_flV0, get_flV1, Int.toNat_zero, Int.toNat_one, Int.reduceToNat, eqV_slice, eqV_ptr, eqV_func, nilS, nilP, nilF, nmL_append, true_or, or_true, and_self, true_and, and_true, Option.some.injEq, reduceCtorEq, false_or, or_false, VV.p.injEq, PV.at.injEq, Value.int.injEq, sl1, vi, bl1, vb, nilV, sl1, htk, List.map_append, fl_nm, es_nm])
            (all_goals first | rfl | omega | exact ⟨rfl, by omega⟩)
        · have h2 : k = B.length := by omega
          subst h2
          rw [List.take_length] at hLL
          have hsum := sum_ok LL (by omega) (fun x hx => by
            rw [← hLL] at hx
            obtain ⟨p, _, rfl⟩ := List.mem_map.1 hx
            have := cost_getD h p
            omega)
          have hcost : sumL LL = costS c S := by rw [hcs, ← hLL, ← hB]; rfl
          rw [hcost] at hsum
          have hnb : M.any (fun q => decide (q.1 = S)) = false := hany
          have hset := set_esM M S (vi (costS c S)) hnb
          have hmm : memo c M S = M ++ [(S, costS c S)] := by unfold memo; rw [if_neg (by rw [hany]; simp)]
          have hfind2 := find_esM c (memo c M S) S (okM_memo hM S)
          have hany2 : (memo c M S).any (fun q => decide (q.1 = S)) = true := by rw [hmm, List.any_append]; simp
          rw [hany2] at hfind2
          simp only [if_true] at hfind2
          rw [hmm, esM_snoc] at hfind2
          rw [hmm, esM_snoc]
          (repeat (first | refine VC.seq ?_ | refine VC.block ?_ | refine VC.kill ?_ | refine VC.skip ?_ | refine VC.exit ?_ | refine VC.regA ?_ | refine VC.condT ?_ | refine VC.condF ?_))
          refine VC.frzA p57 (hb := rfl) (hc := toPVs_vi LL) ?_
          simp only [VSt.frz, PT.map, frzL, frzV, frzB, Option.map_some, Option.map_none, fl_frz, es_frz, PT.set, PT.filt, VSt.kill, Pa.eqb, cond_true, cond_false, Bool.and_true, Bool.and_false, Bool.false_and, Bool.true_and]
          refine VC.planP [p16] rfl ?_
          (apply VPl.run; · ((simp (config := {decide := false, maxSteps := 1000000}) (disch := omega) only [vev_call, putC_c0, putC_n0, putC_cs, ble0, List.getElem?_cons_zero, List.getElem?_cons_succ, runU, isCall, wantV, vev, evV, ofVal, ofAtom, atomB, cond_true, cond_false, PT.get, PT.set, PT.filt, PT.map, Option.getD_some, Option.getD_none, ret1V, ret1X, v_ld, v_ias, v_iad, v_fad, v_slsl, v_slarr, v_st, v_app, v_cpy, v_clr, v_len, v_look, v_mset, elsV, partV, newV, free, atV, atI, atL, toVal, cellsV, okV, VSt.put, VSt.kill, VSt.alloc, VSt.frz, VSt.adopt, noref, norefB, deadB, deadV, nos, nm, nmL, nmB, nmE, Pa.eqb, Bool.not_false, Bool.not_true, Bool.and_true, Bool.true_and, Bool.false_and, Bool.and_false, bin, intOps, intBin, cvt, un, goInt, bndsV, bndV, Option.map_some, Option.map_none, List.map_cons, List.map_nil, Int.toNat_natCast, Nat.mul_one, Nat.zero_add, beq_true, beq_false, beq_self_eq_true, List.length_map, List.length_cons, List.length_nil, List.length_append, fillV, pEvV, repsV, List.append_nil, List.nil_append, if_pos, if_neg, reduceIte, List.getElem?_map, List.getElem?_drop, Nat.add_zero, List.getElem?_eq_getElem, Go.IntWalk.i64_in, wrap_u64, tmod_pos, eq_self, true_and, and_true, and_self, List.all_cons, List.all_nil, nmL_vi, flV_len, flP_len, flV_nm, flV_ok, flV_pv, flP_map, drop_flP, drop_flV, putC_flV, eqV2, eqV3, bneT, bneF, decide_true, decide_false, frzL_vi, frzL_flV, nmE_ag, nmE_at, frzE_ag, frzE_at, ofAg_len, ofAt_len, atL_vi, nmL_map_p, frzL_map_p, okL_p, toPVs_p, repsZ, nmL_reps, putC_vi, get_flV0, get_flV1, Int.toNat_zero, Int.toNat_one, Int.reduceToNat, eqV_slice, eqV_ptr, eqV_func, nilS, nilP, nilF, nmL_append, okL_vi, toPVs_vi, toPVs, toPV, frzV, frzL, frzB, resVV, vi, vb, nilV, sl1, bl1, pi, foldV, max2, min2, max_eq, min_eq, Int.tdiv_eq_ediv_of_nonneg, Int.cast_ofNat_Int, Option.isSome_none, Option.isSome_some, Option.isNone_none, Option.isNone_some, and_false, false_and, sl2, sl1P, slP, min_cast, take_map_pi, map_pi, Nat.sub_zero, Nat.zero_mul, List.length_take, decide_eq_true, decide_eq_false, Bool.true_eq_false, Bool.false_eq_true, beqT, beqF, ibeq, ibne, List.take_zero, List.take_succ_cons, List.drop_zero, List.drop_succ_cons, List.drop_nil, List.take_nil, List.cons_append, Bool.not_true, Bool.not_false, runP, pur, lookB, okPl, okPl1, List.any_cons, List.any_nil, Nat.reduceBEq, Nat.reduceEqDiff, beq_self_eq_true, Bool.or_false, Bool.or_true, Bool.false_or, Bool.true_or, Bool.not_true, Bool.not_false, Bool.and_true, Bool.true_and, Nat.zero_add, Nat.reduceAdd, nos, Pa.eqb, hmap]); rfl))
          refine VPl.call (no_orc 71 (by decide)) hsum ?_ rfl rfl rfl ?_
          · (simp (config := {decide := false, maxSteps := 1000000}) (disch := omega) only [vev_call, putC_c0, putC_n0, putC_cs, ble0, List.getElem?_cons_zero, List.getElem?_cons_succ, runU, isCall, wantV, vev, evV, ofVal, ofAtom, atomB, cond_true, cond_false, PT.get, PT.set, PT.filt, PT.map, Option.getD_some, Option.getD_none, ret1V, ret1X, v_ld, v_ias, v_iad, v_fad, v_slsl, v_slarr, v_st, v_app, v_cpy, v_clr, v_len, v_look, v_mset, elsV, partV, newV, free, atV, atI, atL, toVal, cellsV, okV, VSt.put, VSt.kill, VSt.alloc, VSt.frz, VSt.adopt, noref, norefB, deadB, deadV, nos, nm, nmL, nmB, nmE, Pa.eqb, Bool.not_false, Bool.not_true, Bool.and_true, Bool.true_and, Bool.false_and, Bool.and_false, bin, intOps, intBin, cvt, un, goInt, bndsV, bndV, Option.map_some, Option.map_none, List.map_cons, List.map_nil, Int.toNat_natCast, Nat.mul_one, Nat.zero_add, beq_true, beq_false, beq_self_eq_true, List.length_map, List.length_cons, List.length_nil, List.length_append, fillV, pEvV, repsV, List.append_nil, List.nil_append, if_pos, if_neg, reduceIte, List.getElem?_map, List.getElem?_drop, Nat.add_zero, List.getElem?_eq_getElem, Go.IntWalk.i64_in, wrap_u64, tmod_pos, eq_self, true_and, and_true, and_self, List.all_cons, List.all_nil, nmL_vi, flV_len, flP_len, flV_nm, flV_ok, flV_pv, flP_map, drop_flP, drop_flV, putC_flV, eqV2, eqV3, bneT, bneF, decide_true, decide_false, frzL_vi, frzL_flV, nmE_ag, nmE_at, frzE_ag, frzE_at, ofAg_len, ofAt_len, atL_vi, nmL_map_p, frzL_map_p, okL_p, toPVs_p, repsZ, nmL_reps, putC_vi, get_flV0, get_flV1, Int.toNat_zero, Int.toNat_one, Int.reduceToNat, eqV_slice, eqV_ptr, eqV_func, nilS, nilP, nilF, nmL_append, okL_vi, toPVs_vi, toPVs, toPV, frzV, frzL, frzB, resVV, vi, vb, nilV, sl1, bl1, pi, foldV, max2, min2, max_eq, min_eq, Int.tdiv_eq_ediv_of_nonneg, Int.cast_ofNat_Int, Option.isSome_none, Option.isSome_some, Option.isNone_none, Option.isNone_some, and_false, false_and, sl2, sl1P, slP, min_cast, take_map_pi, map_pi, Nat.sub_zero, Nat.zero_mul, List.length_take, decide_eq_true, decide_eq_false, Bool.true_eq_false, Bool.false_eq_true, beqT, beqF, ibeq, ibne, List.take_zero, List.take_succ_cons, List.drop_zero, List.drop_succ_cons, List.drop_nil, List.take_nil, List.cons_append, Bool.not_true, Bool.not_false, hlk, sl1])
          (apply VPl.run; · ((simp (config := {decide := false, maxSteps := 1000000}) (disch := omega) only [vev_call, putC_c0, putC_n0, putC_cs, ble0, List.getElem?_cons_zero, List.getElem?_cons_succ, runU, isCall, wantV, vev, evV, ofVal, ofAtom, atomB, cond_true, cond_false, PT.get, PT.set, PT.filt, PT.map, Option.getD_some, Option.getD_none, ret1V, ret1X, v_ld, v_ias, v_iad, v_fad, v_slsl, v_slarr, v_st, v_app, v_cpy, v_clr, v_len, v_look, v_mset, elsV, partV, newV, free, atV, atI, atL, toVal, cellsV, okV, VSt.put, VSt.kill, VSt.alloc, VSt.frz, VSt.adopt, noref, norefB, deadB, deadV, nos, nm, nmL, nmB, nmE, Pa.eqb, Bool.not_false, Bool.not_true, Bool.and_true, Bool.true_and, Bool.false_and, Bool.and_false, bin, intOps, intBin, cvt, un, goInt, bndsV, bndV, Option.map_some, Option.map_none, List.map_cons, List.map_nil, Int.toNat_natCast, Nat.mul_one, Nat.zero_add, beq_true, beq_false, beq_self_eq_true, List.length_map, List.length_cons, List.length_nil, List.length_append, fillV, pEvV, repsV, List.append_nil, List.nil_append, if_pos, if_neg, reduceIte, List.getElem?_map, List.getElem?_drop, Nat.add_zero, List.getElem?_eq_getElem, Go.IntWalk.i64_in, wrap_u64, tmod_pos, eq_self, true_and, and_true, and_self, List.all_cons, List.all_nil, nmL_vi, flV_len, flP_len, flV_nm, flV_ok, flV_pv, flP_map, drop_flP, drop_flV, putC_flV, eqV2, eqV3, bneT, bneF, decide_true, decide_false, frzL_vi, frzL_flV, nmE_ag, nmE_at, frzE_ag, frzE_at, ofAg_len, ofAt_len, atL_vi, nmL_map_p, frzL_map_p, okL_p, toPVs_p, repsZ, nmL_reps, putC_vi, get_flV0, get_flV1, Int.toNat_zero, Int.toNat_one, Int.reduceToNat, eqV_slice, eqV_ptr, eqV_func, nilS, nilP, nilF, nmL_append, okL_vi, toPVs_vi, toPVs, toPV, frzV, frzL, frzB, resVV, vi, vb, nilV, sl1, bl1, pi, foldV, max2, min2, max_eq, min_eq, Int.tdiv_eq_ediv_of_nonneg, Int.cast_ofNat_Int, Option.isSome_none, Option.isSome_some, Option.isNone_none, Option.isNone_some, and_false, false_and, sl2, sl1P, slP, min_cast, take_map_pi, map_pi, Nat.sub_zero, Nat.zero_mul, List.length_take, decide_eq_true, decide_eq_false, Bool.true_eq_false, Bool.false_eq_true, beqT, beqF, ibeq, ibne, List.take_zero, List.take_succ_cons, List.drop_zero, List.drop_succ_cons, List.drop_nil, List.take_nil, List.cons_append, Bool.not_true, Bool.not_false, runP, pur, lookB, okPl, okPl1, List.any_cons, List.any_nil, Nat.reduceBEq, Nat.reduceEqDiff, beq_self_eq_true, Bool.or_false, Bool.or_true, Bool.false_or, Bool.true_or, Bool.not_true, Bool.not_false, Bool.and_true, Bool.true_and, Nat.zero_add, Nat.reduceAdd, nos, Pa.eqb]); rfl))
          refine VPl.stop (by decide) ?_
          apply VO.uptoE
          · simp only [vi] at hset
            (simp (config := {decide := false, maxSteps := 1000000}) (disch := omega) only [vev_call, putC_c0, putC_n0, putC_cs, ble0, List.getElem?_cons_zero, List.getElem?_cons_succ, runU, isCall, wantV, vev, evV, ofVal, ofAtom, atomB, cond_true, cond_false, PT.get, PT.set, PT.filt, PT.map, Option.getD_some, Option.getD_none, ret1V, ret1X, v_ld, v_ias, v_iad, v_fad, v_slsl, v_slarr, v_st, v_app, v_cpy, v_clr, v_len, v_look, v_mset, elsV, partV, newV, free, atV, atI, atL, toVal, cellsV, okV, VSt.put, VSt.kill, VSt.alloc, VSt.frz, VSt.adopt, noref, norefB, deadB, deadV, nos, nm, nmL, nmB, nmE, Pa.eqb, Bool.not_false, Bool.not_true, Bool.and_true, Bool.true_and, Bool.false_and, Bool.and_false, bin, intOps, intBin, cvt, un, goInt, bndsV, bndV, Option.map_some, Option.map_none, List.map_cons, List.map_nil, Int.toNat_natCast, Nat.mul_one, Nat.zero_add, beq_true, beq_false, beq_self_eq_true, List.length_map, List.length_cons, List.length_nil, List.length_append, fillV, pEvV, repsV, List.append_nil, List.nil_append, if_pos, if_neg, reduceIte, List.getElem?_map, List.getElem?_drop, Nat.add_zero, List.getElem?_eq_getElem, Go.IntWalk.i64_in, wrap_u64, tmod_pos, eq_self, true_and, and_true, and_self, List.all_cons, List.all_nil, nmL_vi, flV_len, flP_len, flV_nm, flV_ok, flV_pv, flP_map, drop_flP, drop_flV, putC_flV, eqV2, eqV3, bneT, bneF, decide_true, decide_false, frzL_vi, frzL_flV, nmE_ag, nmE_at, frzE_ag, frzE_at, ofAg_len, ofAt_len, atL_vi, nmL_map_p, frzL_map_p, okL_p, toPVs_p, repsZ, nmL_reps, putC_vi, get_flV0, get_flV1, Int.toNat_zero, Int.toNat_one, Int.reduceToNat, eqV_slice, eqV_ptr, eqV_func, nilS, nilP, nilF, nmL_append, okL_vi, toPVs_vi, toPVs, toPV, frzV, frzL, frzB, resVV, vi, vb, nilV, sl1, bl1, pi, foldV, max2, min2, max_eq, min_eq, Int.tdiv_eq_ediv_of_nonneg, Int.cast_ofNat_Int, Option.isSome_none, Option.isSome_some, Option.isNone_none, Option.isNone_some, and_false, false_and, sl2, sl1P, slP, min_cast, take_map_pi, map_pi, Nat.sub_zero, Nat.zero_mul, List.length_take, decide_eq_true, decide_eq_false, Bool.true_eq_false, Bool.false_eq_true, beqT, beqF, ibeq, ibne, List.take_zero, List.take_succ_cons, List.drop_zero, List.drop_succ_cons, List.drop_nil, List.take_nil, List.cons_append, Bool.not_true, Bool.not_false, hkey, hfind, hset, Option.isSome_none, Option.isSome_some])
            rfl
          (repeat (first | refine VC.seq ?_ | refine VC.block ?_ | refine VC.kill ?_ | refine VC.skip ?_ | refine VC.exit ?_ | refine VC.regA ?_ | refine VC.condT ?_ | refine VC.condF ?_))
          simp only [vi] at hfind2
          ((try (apply VC.regU; · ((simp (config := {decide := false, maxSteps := 1000000}) (disch := omega) only [vev_call, putC_c0, putC_n0, putC_cs, ble0, List.getElem?_cons_zero, List.getElem?_cons_succ, runU, isCall, wantV, vev, evV, ofVal, ofAtom, atomB, cond_true, cond_false, PT.get, PT.set, PT.filt, PT.map, Option.getD_some, Option.getD_none, ret1V, ret1X, v_ld, v_ias, v_iad, v_fad, v_slsl, v_slarr, v_st, v_app, v_cpy, v_clr, v_len, v_look, v_mset, elsV, partV, newV, free, atV, atI, atL, toVal, cellsV, okV, VSt.put, VSt.kill, VSt.alloc, VSt.frz, VSt.adopt, noref, norefB, deadB, deadV, nos, nm, nmL, nmB, nmE, Pa.eqb, Bool.not_false, Bool.not_true, Bool.and_true, Bool.true_and, Bool.false_and, Bool.and_false, bin, intOps, intBin, cvt, un, goInt, bndsV, bndV, Option.map_some, Option.map_none, List.map_cons, List.map_nil, Int.toNat_natCast, Nat.mul_one, Nat.zero_add, beq_true, beq_false, beq_self_eq_true, List.length_map, List.length_cons, List.length_nil, List.length_append, fillV, pEvV, repsV, List.append_nil, List.nil_append, if_pos, if_neg, reduceIte, List.getElem?_map, List.getElem?_drop, Nat.add_zero, List.getElem?_eq_getElem, Go.IntWalk.i64_in, wrap_u64, tmod_pos, eq_self, true_and, and_true, and_self, List.all_cons, List.all_nil, nmL_vi, flV_len, flP_len, flV_nm, flV_ok, flV_pv, flP_map, drop_flP, drop_flV, putC_flV, eqV2, eqV3, bneT, bneF, decide_true, decide_false, frzL_vi, frzL_flV, nmE_ag, nmE_at, frzE_ag, frzE_at, ofAg_len, ofAt_len, atL_vi, nmL_map_p, frzL_map_p, okL_p, toPVs_p, repsZ, nmL_reps, putC_vi, get_flV0, get_flV1, Int.toNat_zero, Int.toNat_one, Int.reduceToNat, eqV_slice, eqV_ptr, eqV_func, nilS, nilP, nilF, nmL_append, okL_vi, toPVs_vi, toPVs, toPV, frzV, frzL, frzB, resVV, vi, vb, nilV, sl1, bl1, pi, foldV, max2, min2, max_eq, min_eq, Int.tdiv_eq_ediv_of_nonneg, Int.cast_ofNat_Int, Option.isSome_none, Option.isSome_some, Option.isNone_none, Option.isNone_some, and_false, false_and, sl2, sl1P, slP, min_cast, take_map_pi, map_pi, Nat.sub_zero, Nat.zero_mul, List.length_take, decide_eq_true, decide_eq_false, Bool.true_eq_false, Bool.false_eq_true, beqT, beqF, ibeq, ibne, List.take_zero, List.take_succ_cons, List.drop_zero, List.drop_succ_cons, List.drop_nil, List.take_nil, List.cons_append, Bool.not_true, Bool.not_false, hmap, hfind2, hkey]); rfl))); (repeat (first | refine VC.seq ?_ | refine VC.block ?_ | refine VC.kill ?_ | refine VC.skip ?_ | refine VC.exit ?_ | refine VC.regA ?_ | refine VC.condT ?_ | refine VC.condF ?_)))
          refine VC.ret (Fin.of rfl rfl ?_ rfl rfl ?_)
          · simp [mkB, PT.set, PT.Le, VSt.kill, vi]
          · have hnn : nmE (esM M ++ [(Value.int .i64 S, vi (costS c S))]) = [] := by rw [← esM_snoc]; exact es_nm _
            simp only [vi] at hnn
            simp [subs, nm, nmL, nmsB, nmB, hnn, fl_nm, nos, Pa.eqb, vi, sl1]
end Go.Ab.Dues

namespace Go.Ab.Dues
open Go.Ab.V
set_option maxRecDepth 100000
end Go.Ab.Dues

namespace Go.Ab.Dues
open Go.Ab.V
set_option maxRecDepth 100000
theorem bit_and (a p : Nat) : (a >>> p) &&& 1 = if a.testBit p = true then 1 else 0 := by
  rw [Nat.and_one_is_mod]
  have : a.testBit p = decide ((a >>> p) % 2 = 1) := by
    rw [Nat.testBit_eq_decide_div_mod_eq, Nat.shiftRight_eq_div_pow]
  rw [this]
  by_cases h : a >>> p % 2 = 1
  · rw [decide_eq_true h, if_pos rfl, h]
  · rw [decide_eq_false h, if_neg (by simp)]; omega
end Go.Ab.Dues

namespace Go.Ab.Dues
open Go.Ab.V
set_option maxRecDepth 100000
theorem sumL_pos : ∀ (l : List Int) (m : Nat), (∀ x ∈ l, 0 ≤ x ∧ x ≤ m) → 0 ≤ sumL l ∧ sumL l ≤ ((l.length * m : Nat) : Int) := fun l m h => by
  have key : ∀ i, i ≤ l.length → 0 ≤ sumL (l.take i) ∧ sumL (l.take i) ≤ ((i * m : Nat) : Int) := by
    intro i
    induction i with
    | zero => intro _; simp [sumL]
    | succ i ih =>
      intro hi
      have := ih (by omega)
      have hx := h _ (List.getElem_mem (show i < l.length by omega))
      rw [sumL_take (show i < l.length by omega), Nat.succ_mul]
      omega
  have := key l.length (Nat.le_refl _)
  rw [List.take_length] at this; exact this
theorem costS_bd {c : Can} (h : okC c) (S : Nat) : 0 ≤ costS c S ∧ costS c S ≤ 10000 := by
  have := sumL_pos ((bitsN (pieces (needK c c.ships.length) S)).map fun p => c.cost.getD p 0) 1000 (fun x hx => by
    obtain ⟨p, _, rfl⟩ := List.mem_map.1 hx
    exact cost_getD h p)
  rw [List.length_map] at this
  have hl := bitsN_len (pieces (needK c c.ships.length) S)
  have h2 : (bitsN (pieces (needK c c.ships.length) S)).length * 1000 ≤ 10 * 1000 := Nat.mul_le_mul_right _ hl
  unfold costS costP
  omega
end Go.Ab.Dues

namespace Go.Ab.Dues
open Go.Ab.V
set_option maxRecDepth 100000
end Go.Ab.Dues

namespace Go.Ab.Dues
open Go.Ab.V
set_option maxRecDepth 100000
def bitsTo (S i : Nat) : List Nat := (List.range i).filter fun k => S.testBit k
theorem bitsTo_succ (S i : Nat) : bitsTo S (i + 1) = if S.testBit i = true then bitsTo S i ++ [i] else bitsTo S i := by
  unfold bitsTo
  rw [List.range_succ, List.filter_append, List.filter_cons]
  split <;> simp
theorem bitsTo_end {S i : Nat} (h : S < 2 ^ i) (hi : i ≤ 10) : bitsTo S i = bitsN S := by
  have : ∀ k, k ≤ 10 - i → bitsTo S (i + k) = bitsTo S i := by
    intro k
    induction k with
    | zero => intro _; rfl
    | succ k ih =>
      intro hk
      rw [show i + (k + 1) = (i + k) + 1 from rfl, bitsTo_succ, if_neg, ih (by omega)]
      rw [Nat.testBit_lt_two_pow (Nat.lt_of_lt_of_le h (Nat.pow_le_pow_right (by decide) (by omega)))]; simp
  have := this (10 - i) (Nat.le_refl _)
  rw [show i + (10 - i) = 10 from by omega] at this
  rw [← this]; rfl
theorem bitsTo_len (S i : Nat) : (bitsTo S i).length ≤ i := by
  unfold bitsTo
  have := List.length_filter_le (fun k => S.testBit k) (List.range i)
  rw [List.length_range] at this; exact this
theorem bit_mod (a p : Nat) : (a >>> p) % 2 = if a.testBit p = true then 1 else 0 := by
  rw [← Nat.and_one_is_mod, bit_and]
theorem fdivI {a : Nat} {p : Nat} (hp : p < 64) : ((a : Nat) : Int).fdiv (2 ^ min ((p : Int)).toNat IntKind.i64.bits) = ((a >>> p : Nat) : Int) := by
  have e : ((2 : Int) ^ p) = ((2 ^ p : Nat) : Int) := by simp
  rw [bits_i64, Int.toNat_natCast, Nat.min_eq_left (by omega), e, Int.fdiv_eq_ediv_of_nonneg _ (Int.natCast_nonneg _), ← Int.natCast_ediv, Nat.shiftRight_eq_div_pow]
theorem canNeed {c : Can} {s : Nat} (hs : s < c.ships.length) : c.ships.getD s (-1) = c.ships[s] := by rw [List.getD_eq_getElem?_getD, List.getElem?_eq_getElem hs]; rfl
theorem shl_w {q : Nat} (h : q < 62) : IntKind.i64.wrap (1 * 2 ^ min q IntKind.i64.bits) = ((2 ^ q : Nat) : Int) := by
  have := shl_one h
  unfold shlA at this
  rw [if_neg (by omega), Int.toNat_natCast] at this
  injection this with this
  injection this
set_option maxHeartbeats 4000000 in
theorem RNeeds_ok (c : Can) (h : okC c) (s : Nat) (hs : s < c.ships.length) : VCall cfg 34 [canV c, vi s] [] [] (vi (ch c (c.ships.getD s (-1)) : Nat)) [] := by
  rw [canNeed hs]
  have hsh := h.ship _ (List.getElem_mem hs)
  have h10 := h.n10
  have h7 := h.s7
  generalize hp0 : c.ships[s] = p0 at *
  unfold canV
  (refine VCall.mk (fn := a34) rfl rfl rfl ?_; simp only [a34, inV, mkB, nmsL, PT.set])
  (repeat (first | refine VC.seq ?_ | refine VC.block ?_ | refine VC.kill ?_ | refine VC.skip ?_ | refine VC.exit ?_ | refine VC.regA ?_ | refine VC.condT ?_ | refine VC.condF ?_))
  simp only [hp0]
  refine VC.loopG (fun (q : Nat × Int) => ⟨inV [p2, p5, p6] [.op 0 p2 0, vi (q.1 : Nat), vi q.2] .lf, mkB [(p2, .cells [sl1 c.up, sl1 c.cost, sl1 c.ships])] .lf, [], none⟩) (fun n q => n = (q.2 + 1).toNat ∧ -1 ≤ q.2 ∧ q.2 < c.up.length ∧ q.1 < 1024 ∧ q.1 ||| ch c q.2 = ch c p0) (x := (0, p0)) ?_ ⟨rfl, by simp only; omega, hsh.2, by simp, by simp⟩ ?_
  · (apply Go.Ab.V.G.weak; constructor <;> simp (config := {decide := true}) only [PT.Le, inV, mkB, PT.set, VSt.kill, VSt.adopt, VSt.alloc, PT.filt, PT.map, List.map_cons, List.map_nil, noref, norefB, deadB, deadV, nos, nm, nmL, nmB, nmE, Pa.eqb, cond_true, cond_false, Bool.not_true, Bool.not_false, Bool.and_true, Bool.true_and, nmL_vi, flV_len, flP_len, flV_nm, flV_ok, flV_pv, flP_map, drop_flP, drop_flV, putC_flV, eqV2, eqV3, bneT, bneF, decide_true, decide_false, frzL_vi, frzL_flV, nmE_ag, nmE_at, frzE_ag, frzE_at, ofAg_len, ofAt_len, atL_vi, nmL_map_p, frzL_map_p, okL_p, toPVs_p, repsZ, nmL_reps, putC_vi, get_flV0, get_flV1, Int.toNat_zero, Int.toNat_one, Int.reduceToNat, eqV_slice, eqV_ptr, eqV_func, nilS, nilP, nilF, nmL_append, true_or, or_true, and_self, true_and, and_true, Option.some.injEq, reduceCtorEq, false_or, or_false, VV.p.injEq, PV.at.injEq, Value.int.injEq, sl1, vi, bl1, vb, nilV, sl1])
    (all_goals first | rfl | omega | exact ⟨rfl, by omega⟩)
  rintro n' ⟨acc, p⟩ ⟨hn', hp0', hp1, hacc, hor⟩
  simp only at hn' hp0' hp1 hacc hor
  simp only [inV, PT.set, mkB]
  (repeat (first | refine VC.seq ?_ | refine VC.block ?_ | refine VC.kill ?_ | refine VC.skip ?_ | refine VC.exit ?_ | refine VC.regA ?_ | refine VC.condT ?_ | refine VC.condF ?_))
  refine VC.condA ?_ ?_ <;> intro h2 <;> (simp only [decide_eq_true_eq, decide_eq_false_iff_not, bne_iff_ne, ne_eq, bne_eq_false_iff_eq, beq_iff_eq, beq_eq_false_iff_ne, Bool.not_eq_true', Bool.not_eq_false', Bool.and_eq_true, Bool.or_eq_true, Int.natCast_inj] at h2)
  · obtain ⟨q, rfl⟩ := Int.eq_ofNat_of_zero_le h2
    have hq : q < c.up.length := by omega
    have hu := up_get h hq
    rw [List.getD_eq_getElem?_getD, List.getElem?_eq_getElem hq, Option.getD_some] at hu
    have hstep := ch_step h hq
    have hsh1 := shl_one (n := q) (by omega)
    have hp10 : 2 ^ q < 1024 := Nat.pow_lt_pow_right (n := 10) (by decide) (by omega)
    have hor1 := or_i64 (a := acc) (b := 2 ^ q) (by omega) (by omega)
    (repeat (first | refine VC.seq ?_ | refine VC.block ?_ | refine VC.kill ?_ | refine VC.skip ?_ | refine VC.exit ?_ | refine VC.regA ?_ | refine VC.condT ?_ | refine VC.condF ?_))
    ((try (apply VC.regU; · ((simp (config := {decide := false, maxSteps := 1000000}) (disch := omega) only [vev_call, putC_c0, putC_n0, putC_cs, ble0, List.getElem?_cons_zero, List.getElem?_cons_succ, runU, isCall, wantV, vev, evV, ofVal, ofAtom, atomB, cond_true, cond_false, PT.get, PT.set, PT.filt, PT.map, Option.getD_some, Option.getD_none, ret1V, ret1X, v_ld, v_ias, v_iad, v_fad, v_slsl, v_slarr, v_st, v_app, v_cpy, v_clr, v_len, v_look, v_mset, elsV, partV, newV, free, atV, atI, atL, toVal, cellsV, okV, VSt.put, VSt.kill, VSt.alloc, VSt.frz, VSt.adopt, noref, norefB, deadB, deadV, nos, nm, nmL, nmB, nmE, Pa.eqb, Bool.not_false, Bool.not_true, Bool.and_true, Bool.true_and, Bool.false_and, Bool.and_false, bin, intOps, intBin, cvt, un, goInt, bndsV, bndV, Option.map_some, Option.map_none, List.map_cons, List.map_nil, Int.toNat_natCast, Nat.mul_one, Nat.zero_add, beq_true, beq_false, beq_self_eq_true, List.length_map, List.length_cons, List.length_nil, List.length_append, fillV, pEvV, repsV, List.append_nil, List.nil_append, if_pos, if_neg, reduceIte, List.getElem?_map, List.getElem?_drop, Nat.add_zero, List.getElem?_eq_getElem, Go.IntWalk.i64_in, wrap_u64, tmod_pos, eq_self, true_and, and_true, and_self, List.all_cons, List.all_nil, nmL_vi, flV_len, flP_len, flV_nm, flV_ok, flV_pv, flP_map, drop_flP, drop_flV, putC_flV, eqV2, eqV3, bneT, bneF, decide_true, decide_false, frzL_vi, frzL_flV, nmE_ag, nmE_at, frzE_ag, frzE_at, ofAg_len, ofAt_len, atL_vi, nmL_map_p, frzL_map_p, okL_p, toPVs_p, repsZ, nmL_reps, putC_vi, get_flV0, get_flV1, Int.toNat_zero, Int.toNat_one, Int.reduceToNat, eqV_slice, eqV_ptr, eqV_func, nilS, nilP, nilF, nmL_append, okL_vi, toPVs_vi, toPVs, toPV, frzV, frzL, frzB, resVV, vi, vb, nilV, sl1, bl1, pi, foldV, max2, min2, max_eq, min_eq, Int.tdiv_eq_ediv_of_nonneg, Int.cast_ofNat_Int, Option.isSome_none, Option.isSome_some, Option.isNone_none, Option.isNone_some, and_false, false_and, sl2, sl1P, slP, min_cast, take_map_pi, map_pi, Nat.sub_zero, Nat.zero_mul, List.length_take, decide_eq_true, decide_eq_false, Bool.true_eq_false, Bool.false_eq_true, beqT, beqF, ibeq, ibne, List.take_zero, List.take_succ_cons, List.drop_zero, List.drop_succ_cons, List.drop_nil, List.take_nil, List.cons_append, Bool.not_true, Bool.not_false, hsh1, hor1]); rfl))); (repeat (first | refine VC.seq ?_ | refine VC.block ?_ | refine VC.kill ?_ | refine VC.skip ?_ | refine VC.exit ?_ | refine VC.regA ?_ | refine VC.condT ?_ | refine VC.condF ?_)))
    refine ⟨_, (acc ||| 2 ^ q, c.up[q]), ?_, ⟨rfl, by simp only; omega, by simp only; omega, or_lt (m := 10) hacc hp10, ?_⟩, ?_⟩
    · simp only; omega
    · simp only
      rw [← hor, hstep, Nat.or_assoc]
    · (apply Go.Ab.V.G.weak; constructor <;> simp (config := {decide := true}) only [PT.Le, inV, mkB, PT.set, VSt.kill, VSt.adopt, VSt.alloc, PT.filt, PT.map, List.map_cons, List.map_nil, noref, norefB, deadB, deadV, nos, nm, nmL, nmB, nmE, Pa.eqb, cond_true, cond_false, Bool.not_true, Bool.not_false, Bool.and_true, Bool.true_and, nmL_vi, flV_len, flP_len, flV_nm, flV_ok, flV_pv, flP_map, drop_flP, drop_flV, putC_flV, eqV2, eqV3, bneT, bneF, decide_true, decide_false, frzL_vi, frzL_flV, nmE_ag, nmE_at, frzE_ag, frzE_at, ofAg_len, ofAt_len, atL_vi, nmL_map_p, frzL_map_p, okL_p, toPVs_p, repsZ, nmL_reps, putC_vi, get_flV0, get_flV1, Int.toNat_zero, Int.toNat_one, Int.reduceToNat, eqV_slice, eqV_ptr, eqV_func, nilS, nilP, nilF, nmL_append, true_or, or_true, and_self, true_and, and_true, Option.some.injEq, reduceCtorEq, false_or, or_false, VV.p.injEq, PV.at.injEq, Value.int.injEq, sl1, vi, bl1, vb, nilV, sl1])
      · rw [shl_w (by omega), hor1]
  · have h2 : p = -1 := by omega
    subst h2
    rw [ch_neg (by omega), Nat.or_zero] at hor
    subst hor
    (repeat (first | refine VC.seq ?_ | refine VC.block ?_ | refine VC.kill ?_ | refine VC.skip ?_ | refine VC.exit ?_ | refine VC.regA ?_ | refine VC.condT ?_ | refine VC.condF ?_))
    exact VC.ret (Fin.A rfl)
end Go.Ab.Dues

namespace Go.Ab.Dues
open Go.Ab.V
set_option maxRecDepth 100000
theorem sumL_snoc (l : List Int) (x : Int) : sumL (l ++ [x]) = sumL l + x := by unfold sumL; rw [List.foldl_append]; rfl
def psum (c : Can) (P i : Nat) : Int := sumL ((bitsTo P i).map fun p => c.cost.getD p 0)
theorem psum_bd {c : Can} (h : okC c) (P i : Nat) (hi : i ≤ 10) : 0 ≤ psum c P i ∧ psum c P i ≤ 10000 := by
  have := sumL_pos ((bitsTo P i).map fun p => c.cost.getD p 0) 1000 (fun x hx => by
    obtain ⟨p, _, rfl⟩ := List.mem_map.1 hx
    exact cost_getD h p)
  rw [List.length_map] at this
  have hl := bitsTo_len P i
  have h2 : (bitsTo P i).length * 1000 ≤ 10 * 1000 := Nat.mul_le_mul_right _ (by omega)
  unfold psum
  omega
set_option maxHeartbeats 4000000 in
theorem RCost_ok (c : Can) (h : okC c) (P : Nat) (hP : P < 2 ^ c.cost.length) : VCall cfg 60 [canV c, vi P] [] [] (vi (costP c.cost P)) [] := by
  have h10 := h.n10
  have hcl := h.cl
  have hend : psum c P c.cost.length = costP c.cost P := by unfold psum costP; rw [bitsTo_end hP (by omega)]
  unfold canV
  (refine VCall.mk (fn := a60) rfl rfl rfl ?_; simp only [a60, inV, mkB, nmsL, PT.set])
  (repeat (first | refine VC.seq ?_ | refine VC.block ?_ | refine VC.kill ?_ | refine VC.skip ?_ | refine VC.exit ?_ | refine VC.regA ?_ | refine VC.condT ?_ | refine VC.condF ?_))
  refine VC.loopG (fun (i : Nat) => ⟨inV [p1, p2, p5, p6] [vi P, .op 0 p2 0, vi (psum c P i), vi i] .lf, mkB [(p2, .cells [sl1 c.up, sl1 c.cost, sl1 c.ships])] .lf, [], none⟩) (fun n i => n = c.cost.length - i ∧ i ≤ c.cost.length) (x := 0) ?_ ⟨rfl, Nat.zero_le _⟩ ?_
  · have : psum c P 0 = 0 := rfl
    (apply Go.Ab.V.G.weak; constructor <;> simp (config := {decide := true}) only [PT.Le, inV, mkB, PT.set, VSt.kill, VSt.adopt, VSt.alloc, PT.filt, PT.map, List.map_cons, List.map_nil, noref, norefB, deadB, deadV, nos, nm, nmL, nmB, nmE, Pa.eqb, cond_true, cond_false, Bool.not_true, Bool.not_false, Bool.and_true, Bool.true_and, nmL_vi, flV_len, flP_len, flV_nm, flV_ok, flV_pv, flP_map, drop_flP, drop_flV, putC_flV, eqV2, eqV3, bneT, bneF, decide_true, decide_false, frzL_vi, frzL_flV, nmE_ag, nmE_at, frzE_ag, frzE_at, ofAg_len, ofAt_len, atL_vi, nmL_map_p, frzL_map_p, okL_p, toPVs_p, repsZ, nmL_reps, putC_vi, get_flV0, get_flV1, Int.toNat_zero, Int.toNat_one, Int.reduceToNat, eqV_slice, eqV_ptr, eqV_func, nilS, nilP, nilF, nmL_append, true_or, or_true, and_self, true_and, and_true, Option.some.injEq, reduceCtorEq, false_or, or_false, VV.p.injEq, PV.at.injEq, Value.int.injEq, sl1, vi, bl1, vb, nilV, sl1, this])
    (all_goals first | rfl | omega | exact ⟨rfl, by omega⟩)
  rintro n i ⟨hn, hi⟩
  simp only [inV, PT.set, mkB]
  have hb := psum_bd h P i (by omega)
  have hfin : i = c.cost.length → psum c P i = costP c.cost P := fun e => by rw [e, hend]
  have hps : psum c P (i + 1) = psum c P i + (if P.testBit i = true then c.cost.getD i 0 else 0) := by
    unfold psum
    rw [bitsTo_succ]
    split
    · rw [List.map_append, List.map_cons, List.map_nil, sumL_snoc]
    · omega
  generalize psum c P i = u at *
  (repeat (first | refine VC.seq ?_ | refine VC.block ?_ | refine VC.kill ?_ | refine VC.skip ?_ | refine VC.exit ?_ | refine VC.regA ?_ | refine VC.condT ?_ | refine VC.condF ?_))
  refine VC.condA ?_ ?_ <;> intro h' <;> (simp only [decide_eq_true_eq, decide_eq_false_iff_not, bne_iff_ne, ne_eq, bne_eq_false_iff_eq, beq_iff_eq, beq_eq_false_iff_ne, Bool.not_eq_true', Bool.not_eq_false', Bool.and_eq_true, Bool.or_eq_true, Int.natCast_inj] at h')
  · have h' : i < c.cost.length := by omega
    have hci := h.cost i h'
    have hgd : c.cost.getD i 0 = c.cost[i] := by rw [List.getD_eq_getElem?_getD, List.getElem?_eq_getElem h']; rfl
    rw [hgd] at hps
    have hsr := shr_i64 (a := P) (n := i) (by omega)
    have hbm := bit_mod P i
    generalize hw : P >>> i = w at *
    have htm : (w : Int).tmod 2 = ((w % 2 : Nat) : Int) := by rw [Int.tmod_eq_emod_of_nonneg (by omega)]; omega
    generalize hcc : c.cost[i] = ci at *
    cases hbt : P.testBit i with
    | true =>
      rw [hbt] at hps hbm
      simp only [if_true] at hps hbm
      rw [hbm] at htm
      have hw1 : IntKind.i64.wrap (u + IntKind.i64.wrap ((w : Int) % 2 * ci)) = u + ci := by
        rw [show (w : Int) % 2 = 1 from by omega, Int.one_mul, wrapI (x := ci) (by omega) (by omega), wrapI (by omega) (by omega)]
      (repeat (first | refine VC.seq ?_ | refine VC.block ?_ | refine VC.kill ?_ | refine VC.skip ?_ | refine VC.exit ?_ | refine VC.regA ?_ | refine VC.condT ?_ | refine VC.condF ?_))
      ((try (apply VC.regU; · ((simp (config := {decide := false, maxSteps := 1000000}) (disch := omega) only [vev_call, putC_c0, putC_n0, putC_cs, ble0, List.getElem?_cons_zero, List.getElem?_cons_succ, runU, isCall, wantV, vev, evV, ofVal, ofAtom, atomB, cond_true, cond_false, PT.get, PT.set, PT.filt, PT.map, Option.getD_some, Option.getD_none, ret1V, ret1X, v_ld, v_ias, v_iad, v_fad, v_slsl, v_slarr, v_st, v_app, v_cpy, v_clr, v_len, v_look, v_mset, elsV, partV, newV, free, atV, atI, atL, toVal, cellsV, okV, VSt.put, VSt.kill, VSt.alloc, VSt.frz, VSt.adopt, noref, norefB, deadB, deadV, nos, nm, nmL, nmB, nmE, Pa.eqb, Bool.not_false, Bool.not_true, Bool.and_true, Bool.true_and, Bool.false_and, Bool.and_false, bin, intOps, intBin, cvt, un, goInt, bndsV, bndV, Option.map_some, Option.map_none, List.map_cons, List.map_nil, Int.toNat_natCast, Nat.mul_one, Nat.zero_add, beq_true, beq_false, beq_self_eq_true, List.length_map, List.length_cons, List.length_nil, List.length_append, fillV, pEvV, repsV, List.append_nil, List.nil_append, if_pos, if_neg, reduceIte, List.getElem?_map, List.getElem?_drop, Nat.add_zero, List.getElem?_eq_getElem, Go.IntWalk.i64_in, wrap_u64, tmod_pos, eq_self, true_and, and_true, and_self, List.all_cons, List.all_nil, nmL_vi, flV_len, flP_len, flV_nm, flV_ok, flV_pv, flP_map, drop_flP, drop_flV, putC_flV, eqV2, eqV3, bneT, bneF, decide_true, decide_false, frzL_vi, frzL_flV, nmE_ag, nmE_at, frzE_ag, frzE_at, ofAg_len, ofAt_len, atL_vi, nmL_map_p, frzL_map_p, okL_p, toPVs_p, repsZ, nmL_reps, putC_vi, get_flV0, get_flV1, Int.toNat_zero, Int.toNat_one, Int.reduceToNat, eqV_slice, eqV_ptr, eqV_func, nilS, nilP, nilF, nmL_append, okL_vi, toPVs_vi, toPVs, toPV, frzV, frzL, frzB, resVV, vi, vb, nilV, sl1, bl1, pi, foldV, max2, min2, max_eq, min_eq, Int.tdiv_eq_ediv_of_nonneg, Int.cast_ofNat_Int, Option.isSome_none, Option.isSome_some, Option.isNone_none, Option.isNone_some, and_false, false_and, sl2, sl1P, slP, min_cast, take_map_pi, map_pi, Nat.sub_zero, Nat.zero_mul, List.length_take, decide_eq_true, decide_eq_false, Bool.true_eq_false, Bool.false_eq_true, beqT, beqF, ibeq, ibne, List.take_zero, List.take_succ_cons, List.drop_zero, List.drop_succ_cons, List.drop_nil, List.take_nil, List.cons_append, Bool.not_true, Bool.not_false, hsr, htm, hcc, hw1]); rfl))); (repeat (first | refine VC.seq ?_ | refine VC.block ?_ | refine VC.kill ?_ | refine VC.skip ?_ | refine VC.exit ?_ | refine VC.regA ?_ | refine VC.condT ?_ | refine VC.condF ?_)))
      refine ⟨_, i + 1, ?_, ⟨rfl, by omega⟩, ?_⟩
      · omega
      · (apply Go.Ab.V.G.weak; constructor <;> simp (config := {decide := true}) only [PT.Le, inV, mkB, PT.set, VSt.kill, VSt.adopt, VSt.alloc, PT.filt, PT.map, List.map_cons, List.map_nil, noref, norefB, deadB, deadV, nos, nm, nmL, nmB, nmE, Pa.eqb, cond_true, cond_false, Bool.not_true, Bool.not_false, Bool.and_true, Bool.true_and, nmL_vi, flV_len, flP_len, flV_nm, flV_ok, flV_pv, flP_map, drop_flP, drop_flV, putC_flV, eqV2, eqV3, bneT, bneF, decide_true, decide_false, frzL_vi, frzL_flV, nmE_ag, nmE_at, frzE_ag, frzE_at, ofAg_len, ofAt_len, atL_vi, nmL_map_p, frzL_map_p, okL_p, toPVs_p, repsZ, nmL_reps, putC_vi, get_flV0, get_flV1, Int.toNat_zero, Int.toNat_one, Int.reduceToNat, eqV_slice, eqV_ptr, eqV_func, nilS, nilP, nilF, nmL_append, true_or, or_true, and_self, true_and, and_true, Option.some.injEq, reduceCtorEq, false_or, or_false, VV.p.injEq, PV.at.injEq, Value.int.injEq, sl1, vi, bl1, vb, nilV, sl1, hps])
        (all_goals first | rfl | omega | exact ⟨rfl, by omega⟩)
    | false =>
      rw [hbt] at hps hbm
      simp only [Bool.false_eq_true, if_false] at hps hbm
      rw [hbm] at htm
      have hw1 : IntKind.i64.wrap (u + IntKind.i64.wrap ((w : Int) % 2 * ci)) = u + 0 := by
        rw [show (w : Int) % 2 = 0 from by omega, Int.zero_mul, wrapI (x := 0) (by omega) (by omega), wrapI (by omega) (by omega)]
      (repeat (first | refine VC.seq ?_ | refine VC.block ?_ | refine VC.kill ?_ | refine VC.skip ?_ | refine VC.exit ?_ | refine VC.regA ?_ | refine VC.condT ?_ | refine VC.condF ?_))
      ((try (apply VC.regU; · ((simp (config := {decide := false, maxSteps := 1000000}) (disch := omega) only [vev_call, putC_c0, putC_n0, putC_cs, ble0, List.getElem?_cons_zero, List.getElem?_cons_succ, runU, isCall, wantV, vev, evV, ofVal, ofAtom, atomB, cond_true, cond_false, PT.get, PT.set, PT.filt, PT.map, Option.getD_some, Option.getD_none, ret1V, ret1X, v_ld, v_ias, v_iad, v_fad, v_slsl, v_slarr, v_st, v_app, v_cpy, v_clr, v_len, v_look, v_mset, elsV, partV, newV, free, atV, atI, atL, toVal, cellsV, okV, VSt.put, VSt.kill, VSt.alloc, VSt.frz, VSt.adopt, noref, norefB, deadB, deadV, nos, nm, nmL, nmB, nmE, Pa.eqb, Bool.not_false, Bool.not_true, Bool.and_true, Bool.true_and, Bool.false_and, Bool.and_false, bin, intOps, intBin, cvt, un, goInt, bndsV, bndV, Option.map_some, Option.map_none, List.map_cons, List.map_nil, Int.toNat_natCast, Nat.mul_one, Nat.zero_add, beq_true, beq_false, beq_self_eq_true, List.length_map, List.length_cons, List.length_nil, List.length_append, fillV, pEvV, repsV, List.append_nil, List.nil_append, if_pos, if_neg, reduceIte, List.getElem?_map, List.getElem?_drop, Nat.add_zero, List.getElem?_eq_getElem, Go.IntWalk.i64_in, wrap_u64, tmod_pos, eq_self, true_and, and_true, and_self, List.all_cons, List.all_nil, nmL_vi, flV_len, flP_len, flV_nm, flV_ok, flV_pv, flP_map, drop_flP, drop_flV, putC_flV, eqV2, eqV3, bneT, bneF, decide_true, decide_false, frzL_vi, frzL_flV, nmE_ag, nmE_at, frzE_ag, frzE_at, ofAg_len, ofAt_len, atL_vi, nmL_map_p, frzL_map_p, okL_p, toPVs_p, repsZ, nmL_reps, putC_vi, get_flV0, get_flV1, Int.toNat_zero, Int.toNat_one, Int.reduceToNat, eqV_slice, eqV_ptr, eqV_func, nilS, nilP, nilF, nmL_append, okL_vi, toPVs_vi, toPVs, toPV, frzV, frzL, frzB, resVV, vi, vb, nilV, sl1, bl1, pi, foldV, max2, min2, max_eq, min_eq, Int.tdiv_eq_ediv_of_nonneg, Int.cast_ofNat_Int, Option.isSome_none, Option.isSome_some, Option.isNone_none, Option.isNone_some, and_false, false_and, sl2, sl1P, slP, min_cast, take_map_pi, map_pi, Nat.sub_zero, Nat.zero_mul, List.length_take, decide_eq_true, decide_eq_false, Bool.true_eq_false, Bool.false_eq_true, beqT, beqF, ibeq, ibne, List.take_zero, List.take_succ_cons, List.drop_zero, List.drop_succ_cons, List.drop_nil, List.take_nil, List.cons_append, Bool.not_true, Bool.not_false, hsr, htm, hcc, hw1]); rfl))); (repeat (first | refine VC.seq ?_ | refine VC.block ?_ | refine VC.kill ?_ | refine VC.skip ?_ | refine VC.exit ?_ | refine VC.regA ?_ | refine VC.condT ?_ | refine VC.condF ?_)))
      refine ⟨_, i + 1, ?_, ⟨rfl, by omega⟩, ?_⟩
      · omega
      · (apply Go.Ab.V.G.weak; constructor <;> simp (config := {decide := true}) only [PT.Le, inV, mkB, PT.set, VSt.kill, VSt.adopt, VSt.alloc, PT.filt, PT.map, List.map_cons, List.map_nil, noref, norefB, deadB, deadV, nos, nm, nmL, nmB, nmE, Pa.eqb, cond_true, cond_false, Bool.not_true, Bool.not_false, Bool.and_true, Bool.true_and, nmL_vi, flV_len, flP_len, flV_nm, flV_ok, flV_pv, flP_map, drop_flP, drop_flV, putC_flV, eqV2, eqV3, bneT, bneF, decide_true, decide_false, frzL_vi, frzL_flV, nmE_ag, nmE_at, frzE_ag, frzE_at, ofAg_len, ofAt_len, atL_vi, nmL_map_p, frzL_map_p, okL_p, toPVs_p, repsZ, nmL_reps, putC_vi, get_flV0, get_flV1, Int.toNat_zero, Int.toNat_one, Int.reduceToNat, eqV_slice, eqV_ptr, eqV_func, nilS, nilP, nilF, nmL_append, true_or, or_true, and_self, true_and, and_true, Option.some.injEq, reduceCtorEq, false_or, or_false, VV.p.injEq, PV.at.injEq, Value.int.injEq, sl1, vi, bl1, vb, nilV, sl1, hps])
        (all_goals first | rfl | omega | exact ⟨rfl, by omega⟩)
  · have hf := hfin (by omega)
    subst hf
    (repeat (first | refine VC.seq ?_ | refine VC.block ?_ | refine VC.kill ?_ | refine VC.skip ?_ | refine VC.exit ?_ | refine VC.regA ?_ | refine VC.condT ?_ | refine VC.condF ?_))
    exact VC.ret (Fin.A rfl)
def orTo (nd : List Nat) (S i : Nat) : Nat := (bitsTo S i).foldl (fun a s => a ||| nd.getD s 0) 0
theorem orTo_succ (nd : List Nat) (S i : Nat) : orTo nd S (i + 1) = if S.testBit i = true then orTo nd S i ||| nd.getD i 0 else orTo nd S i := by
  unfold orTo
  rw [bitsTo_succ]
  split
  · rw [List.foldl_append]; rfl
  · rfl
theorem pieces_lt2 {c : Can} (h : okC c) (k S : Nat) : pieces (needK c k) S < 2 ^ c.cost.length := by
  apply Nat.lt_pow_two_of_testBit
  intro i hi
  cases hb : (pieces (needK c k) S).testBit i with
  | false => rfl
  | true =>
    obtain ⟨s, _, hs⟩ := pieces_bit.1 hb
    have := needK_bit h hs
    have := h.cl
    omega
set_option maxHeartbeats 4000000 in
theorem RCostOf_ok (c : Can) (h : okC c) (S : Nat) (hS : S < 2 ^ c.ships.length) : VCall cfg 30 [canV c, vi S] [] [] (vi (costS c S)) [] := by
  have h7 := h.s7
  have kc := RCost_ok c h (pieces (needK c c.ships.length) S) (pieces_lt2 h _ S)
  have kn := RNeeds_ok c h
  have hend : orTo (needK c c.ships.length) S c.ships.length = pieces (needK c c.ships.length) S := by unfold orTo pieces; rw [bitsTo_end hS (by omega)]
  have hlt := needK_lt h c.ships.length
  have hS7 : S < 1024 := Nat.lt_of_lt_of_le hS (show 2 ^ c.ships.length ≤ 2 ^ 10 from Nat.pow_le_pow_right (by decide) (by omega))
  have hgd : ∀ s, s < c.ships.length → (needK c c.ships.length).getD s 0 = ch c (c.ships.getD s (-1)) := fun s hs => by
    rw [List.getD_eq_getElem?_getD, List.getElem?_eq_getElem (by rw [needK_len]; omega), Option.getD_some, needK_get, if_pos hs]
  unfold costS
  have hol : ∀ i, orTo (needK c c.ships.length) S i < 1024 := fun i => fold_or_lt _ hlt _ _ (by decide)
  have hos := fun i => orTo_succ (needK c c.ships.length) S i
  generalize needK c c.ships.length = nd at *
  unfold canV at kc kn ⊢
  (refine VCall.mk (fn := a30) rfl rfl rfl ?_; simp only [a30, inV, mkB, nmsL, PT.set])
  (repeat (first | refine VC.seq ?_ | refine VC.block ?_ | refine VC.kill ?_ | refine VC.skip ?_ | refine VC.exit ?_ | refine VC.regA ?_ | refine VC.condT ?_ | refine VC.condF ?_))
  refine VC.loopG (fun (i : Nat) => ⟨inV [p1, p2, p5, p6] [vi S, .op 0 p2 0, vi (orTo nd S i : Nat), vi i] .lf, mkB [(p2, .cells [sl1 c.up, sl1 c.cost, sl1 c.ships])] .lf, [], none⟩) (fun n i => n = c.ships.length - i ∧ i ≤ c.ships.length) (x := 0) ?_ ⟨rfl, Nat.zero_le _⟩ ?_
  · have : orTo nd S 0 = 0 := rfl
    (apply Go.Ab.V.G.weak; constructor <;> simp (config := {decide := true}) only [PT.Le, inV, mkB, PT.set, VSt.kill, VSt.adopt, VSt.alloc, PT.filt, PT.map, List.map_cons, List.map_nil, noref, norefB, deadB, deadV, nos, nm, nmL, nmB, nmE, Pa.eqb, cond_true, cond_false, Bool.not_true, Bool.not_false, Bool.and_true, Bool.true_and, nmL_vi, flV_len, flP_len, flV_nm, flV_ok, flV_pv, flP_map, drop_flP, drop_flV, putC_flV, eqV2, eqV3, bneT, bneF, decide_true, decide_false, frzL_vi, frzL_flV, nmE_ag, nmE_at, frzE_ag, frzE_at, ofAg_len, ofAt_len, atL_vi, nmL_map_p, frzL_map_p, okL_p, toPVs_p, repsZ, nmL_reps, putC_vi, get_flV0, get_flV1, Int.toNat_zero, Int.toNat_one, Int.reduceToNat, eqV_slice, eqV_ptr, eqV_func, nilS, nilP, nilF, nmL_append, true_or, or_true, and_self, true_and, and_true, Option.some.injEq, reduceCtorEq, false_or, or_false, VV.p.injEq, PV.at.injEq, Value.int.injEq, sl1, vi, bl1, vb, nilV, sl1, this])
    (all_goals first | rfl | omega | exact ⟨rfl, by omega⟩)
  rintro n i ⟨hn, hi⟩
  simp only [inV, PT.set, mkB]
  have ho := hos i
  have hl := hol i
  have hfin : i = c.ships.length → orTo nd S i = pieces nd S := fun e => by rw [e, hend]
  generalize orTo nd S i = u at *
  (repeat (first | refine VC.seq ?_ | refine VC.block ?_ | refine VC.kill ?_ | refine VC.skip ?_ | refine VC.exit ?_ | refine VC.regA ?_ | refine VC.condT ?_ | refine VC.condF ?_))
  refine VC.condA ?_ ?_ <;> intro h' <;> (simp only [decide_eq_true_eq, decide_eq_false_iff_not, bne_iff_ne, ne_eq, bne_eq_false_iff_eq, beq_iff_eq, beq_eq_false_iff_ne, Bool.not_eq_true', Bool.not_eq_false', Bool.and_eq_true, Bool.or_eq_true, Int.natCast_inj] at h')
  · have h' : i < c.ships.length := by omega
    have hfd := fdivI (a := S) (p := i) (by omega)
    have hbm := bit_mod S i
    generalize hw : S >>> i = w at *
    have htm : (w : Int).tmod 2 = ((w % 2 : Nat) : Int) := by rw [Int.tmod_eq_emod_of_nonneg (by omega)]; omega
    have k2 := kn i h'
    rw [← hgd i h'] at k2
    have hl2 := hlt i
    generalize nd.getD i 0 = x at *
    have hor1 := or_i64 (a := u) (b := x) (by omega) (by omega)
    cases hbt : S.testBit i with
    | true =>
      rw [hbt] at ho hbm
      simp only [if_true] at ho hbm
      rw [hbm] at htm
      (repeat (first | refine VC.seq ?_ | refine VC.block ?_ | refine VC.kill ?_ | refine VC.skip ?_ | refine VC.exit ?_ | refine VC.regA ?_ | refine VC.condT ?_ | refine VC.condF ?_))
      simp only [hfd, htm]
      (repeat (first | refine VC.seq ?_ | refine VC.block ?_ | refine VC.kill ?_ | refine VC.skip ?_ | refine VC.exit ?_ | refine VC.regA ?_ | refine VC.condT ?_ | refine VC.condF ?_))
      (refine VC.regCA ?_; refine VO.moreA ?_; refine VO.call0A (no_orc _ (by decide)) k2 ?_; refine VO.endA ?_; (repeat (first | refine VC.seq ?_ | refine VC.block ?_ | refine VC.kill ?_ | refine VC.skip ?_ | refine VC.exit ?_ | refine VC.regA ?_ | refine VC.condT ?_ | refine VC.condF ?_)))
      simp only [hor1]
      refine ⟨_, i + 1, ?_, ⟨rfl, by omega⟩, ?_⟩
      · omega
      · (apply Go.Ab.V.G.weak; constructor <;> simp (config := {decide := true}) only [PT.Le, inV, mkB, PT.set, VSt.kill, VSt.adopt, VSt.alloc, PT.filt, PT.map, List.map_cons, List.map_nil, noref, norefB, deadB, deadV, nos, nm, nmL, nmB, nmE, Pa.eqb, cond_true, cond_false, Bool.not_true, Bool.not_false, Bool.and_true, Bool.true_and, nmL_vi, flV_len, flP_len, flV_nm, flV_ok, flV_pv, flP_map, drop_flP, drop_flV, putC_flV, eqV2, eqV3, bneT, bneF, decide_true, decide_false, frzL_vi, frzL_flV, nmE_ag, nmE_at, frzE_ag, frzE_at, ofAg_len, ofAt_len, atL_vi, nmL_map_p, frzL_map_p, okL_p, toPVs_p, repsZ, nmL_reps, putC_vi, get_flV0, get_flV1, Int.toNat_zero, Int.toNat_one, Int.reduceToNat, eqV_slice, eqV_ptr, eqV_func, nilS, nilP, nilF, nmL_append, true_or, or_true, and_self, true_and, and_true, Option.some.injEq, reduceCtorEq, false_or, or_false, VV.p.injEq, PV.at.injEq, Value.int.injEq, sl1, vi, bl1, vb, nilV, sl1, ho])
        (all_goals first | rfl | omega | exact ⟨rfl, by omega⟩)
    | false =>
      rw [hbt] at ho hbm
      simp only [Bool.false_eq_true, if_false] at ho hbm
      rw [hbm] at htm
      (repeat (first | refine VC.seq ?_ | refine VC.block ?_ | refine VC.kill ?_ | refine VC.skip ?_ | refine VC.exit ?_ | refine VC.regA ?_ | refine VC.condT ?_ | refine VC.condF ?_))
      simp only [hfd, htm]
      (repeat (first | refine VC.seq ?_ | refine VC.block ?_ | refine VC.kill ?_ | refine VC.skip ?_ | refine VC.exit ?_ | refine VC.regA ?_ | refine VC.condT ?_ | refine VC.condF ?_))
      refine ⟨_, i + 1, ?_, ⟨rfl, by omega⟩, ?_⟩
      · omega
      · (apply Go.Ab.V.G.weak; constructor <;> simp (config := {decide := true}) only [PT.Le, inV, mkB, PT.set, VSt.kill, VSt.adopt, VSt.alloc, PT.filt, PT.map, List.map_cons, List.map_nil, noref, norefB, deadB, deadV, nos, nm, nmL, nmB, nmE, Pa.eqb, cond_true, cond_false, Bool.not_true, Bool.not_false, Bool.and_true, Bool.true_and, nmL_vi, flV_len, flP_len, flV_nm, flV_ok, flV_pv, flP_map, drop_flP, drop_flV, putC_flV, eqV2, eqV3, bneT, bneF, decide_true, decide_false, frzL_vi, frzL_flV, nmE_ag, nmE_at, frzE_ag, frzE_at, ofAg_len, ofAt_len, atL_vi, nmL_map_p, frzL_map_p, okL_p, toPVs_p, repsZ, nmL_reps, putC_vi, get_flV0, get_flV1, Int.toNat_zero, Int.toNat_one, Int.reduceToNat, eqV_slice, eqV_ptr, eqV_func, nilS, nilP, nilF, nmL_append, true_or, or_true, and_self, true_and, and_true, Option.some.injEq, reduceCtorEq, false_or, or_false, VV.p.injEq, PV.at.injEq, Value.int.injEq, sl1, vi, bl1, vb, nilV, sl1, ho])
        (all_goals first | rfl | omega | exact ⟨rfl, by omega⟩)
  · have hf := hfin (by omega)
    subst hf
    (repeat (first | refine VC.seq ?_ | refine VC.block ?_ | refine VC.kill ?_ | refine VC.skip ?_ | refine VC.exit ?_ | refine VC.regA ?_ | refine VC.condT ?_ | refine VC.condF ?_))
    (refine VC.regCA ?_; refine VO.moreA ?_; refine VO.call0A (no_orc _ (by decide)) kc ?_; refine VO.endA ?_; (repeat (first | refine VC.seq ?_ | refine VC.block ?_ | refine VC.kill ?_ | refine VC.skip ?_ | refine VC.exit ?_ | refine VC.regA ?_ | refine VC.condT ?_ | refine VC.condF ?_)))
    exact VC.ret (Fin.A rfl)
end Go.Ab.Dues

namespace Go.Ab.Dues
/-! ### Set functions: plain sums over ranges -/
end Go.Ab.Dues

namespace Go.Ab.Dues
open Go.Ab.V
set_option maxRecDepth 100000
end Go.Ab.Dues

namespace Go.Ab.Dues
open Go.Ab.V
set_option maxRecDepth 100000
end Go.Ab.Dues

namespace Go.Ab.Dues
open Go.Ab.V
set_option maxRecDepth 100000
def tn (c : Can) : Nat := max 1 (min c.up.length 10)
def upT (c : Can) (i : Nat) : List Int := (List.range i).map fun (k : Nat) => if k = 0 then -1 else c.up.getD k 0 % 18446744073709551616 % k
def costT (c : Can) (i : Nat) : List Int := (List.range i).map fun k => if k < c.cost.length then c.cost.getD k 0 % 18446744073709551616 % 1001 else 1
def shipT (c : Can) (i : Nat) : List Int := (c.ships.take i).map fun x => x % 18446744073709551616 % (tn c : Nat)
def tameC (c : Can) (m : Nat) : Can := ⟨upT c (tn c), costT c (tn c), shipT c m⟩
theorem upT_len (c : Can) (i : Nat) : (upT c i).length = i := by simp [upT]
theorem costT_len (c : Can) (i : Nat) : (costT c i).length = i := by simp [costT]
theorem upT_succ (c : Can) (i : Nat) : upT c (i + 1) = upT c i ++ [if i = 0 then -1 else c.up.getD i 0 % 18446744073709551616 % i] := by simp [upT, List.range_succ]
theorem costT_succ (c : Can) (i : Nat) : costT c (i + 1) = costT c i ++ [if i < c.cost.length then c.cost.getD i 0 % 18446744073709551616 % 1001 else 1] := by simp [costT, List.range_succ]
theorem shipT_succ (c : Can) (i : Nat) (h : i < c.ships.length) : shipT c (i + 1) = shipT c i ++ [c.ships[i] % 18446744073709551616 % (tn c : Nat)] := by
  unfold shipT; rw [List.take_add_one, List.getElem?_eq_getElem h, List.map_append]; rfl
theorem shipT_len (c : Can) (i : Nat) : (shipT c i).length = min i c.ships.length := by simp [shipT]
theorem tame_okC (c : Can) (m : Nat) (hm : m ≤ 7) : okC (tameC c m) := by
  have hn : 1 ≤ tn c ∧ tn c ≤ 10 := by unfold tn; omega
  refine ⟨?_, ?_, ?_, ?_, ?_, ?_, ?_, ?_⟩
  · simp only [tameC, upT_len]; omega
  · simp only [tameC, upT_len]; omega
  · simp only [tameC, upT_len, costT_len]
  · simp only [tameC, shipT_len]; omega
  · intro h; simp [tameC, upT]
  · intro i h hi
    simp only [tameC, upT, List.getElem_map, List.getElem_range, if_neg (show ¬i = 0 by omega)]
    exact ⟨Int.emod_nonneg _ (by omega), Int.emod_lt_of_pos _ (by omega)⟩
  · intro i h
    simp only [tameC, costT, List.getElem_map, List.getElem_range]
    split <;> omega
  · intro x hx
    simp only [tameC, shipT, List.mem_map] at hx
    obtain ⟨y, _, rfl⟩ := hx
    simp only [tameC, upT_len]
    exact ⟨Int.emod_nonneg _ (by omega), Int.emod_lt_of_pos _ (by omega)⟩
set_option maxHeartbeats 8000000 in
theorem tame_ok (c : Can) (m : Nat) (hm : m ≤ 7) (h1 : c.up.length ≤ 9223372036854775807) (h2 : c.cost.length ≤ 9223372036854775807) (h3 : c.ships.length ≤ 9223372036854775807) : VCall cfg 15 [canV c, vi m] [] [] (canV (tameC c m)) [] := by
  have hn : 1 ≤ tn c ∧ tn c ≤ 10 := by unfold tn; omega
  have hnc : max 1 (min (c.up.length : Int) 10) = (tn c : Int) := by unfold tn; omega
  have hnup : ∀ i, i < tn c → 0 < i → i < c.up.length := fun i h0 h1 => by unfold tn at h0; omega
  have hul := upT_len c
  have hcl := costT_len c
  have hus := upT_succ c
  have hcs := costT_succ c
  unfold canV tameC
  generalize hNN : tn c = N at *
  (refine VCall.mk (fn := a15) rfl rfl rfl ?_; simp only [a15, inV, mkB, nmsL, PT.set])
  (repeat (first | refine VC.seq ?_ | refine VC.block ?_ | refine VC.kill ?_ | refine VC.skip ?_ | refine VC.exit ?_ | refine VC.regA ?_ | refine VC.condT ?_ | refine VC.condF ?_))
  simp only [hnc]
  refine VC.ghost (G.adoptBA (p := p5) 0 1 p56 G.refl) ?_
  (simp only [List.nil_append, List.append_nil, VSt.kill, VSt.osob, VSt.adoptB, VSt.adopt, VSt.alloc, PT.filt, norefB, deadB, deadV, PT.map, Option.map_some, Option.map_none, List.map_cons, List.map_nil, noref, nos, nm, nmL, nmB, nmE, Pa.eqb, PT.set, mkB, inV, cond_true, cond_false, Bool.and_true, Bool.not_false, Bool.not_true, List.set_cons_zero, List.set_cons_succ])
  refine VC.ghost (G.adoptBA (p := p5) 1 1 p61 G.refl) ?_
  (simp only [List.nil_append, List.append_nil, VSt.kill, VSt.osob, VSt.adoptB, VSt.adopt, VSt.alloc, PT.filt, norefB, deadB, deadV, PT.map, Option.map_some, Option.map_none, List.map_cons, List.map_nil, noref, nos, nm, nmL, nmB, nmE, Pa.eqb, PT.set, mkB, inV, cond_true, cond_false, Bool.and_true, Bool.not_false, Bool.not_true, List.set_cons_zero, List.set_cons_succ])
  refine VC.ghost (G.adoptBA (p := p5) 2 1 p89 G.refl) ?_
  (simp only [List.nil_append, List.append_nil, VSt.kill, VSt.osob, VSt.adoptB, VSt.adopt, VSt.alloc, PT.filt, norefB, deadB, deadV, PT.map, Option.map_some, Option.map_none, List.map_cons, List.map_nil, noref, nos, nm, nmL, nmB, nmE, Pa.eqb, PT.set, mkB, inV, cond_true, cond_false, Bool.and_true, Bool.not_false, Bool.not_true, List.set_cons_zero, List.set_cons_succ])
  refine VC.loopG (fun (i : Nat) => ⟨inV [p1, p2, p4, p5, p6, p7] [vi m, .op 0 p2 0, .op 0 p4 0, .op 0 p5 0, vi N, vi i] .lf, mkB [(p2, .cells [sl1 c.up, sl1 c.cost, sl1 c.ships]), (p4, .cells [nilV, nilV, nilV]), (p5, .cells [.os 1 p56 i, .os 1 p61 i, .os 1 p89 0]), (p56, .cells ((upT c i).map vi)), (p61, .cells ((costT c i).map vi)), (p89, .cells [])] .lf, [], none⟩) (fun n i => n = N - i ∧ i ≤ N) (x := 0) ?_ ⟨rfl, Nat.zero_le _⟩ ?_
  · have e1 : upT c 0 = [] := rfl
    have e2 : costT c 0 = [] := rfl
    (apply Go.Ab.V.G.weak; constructor <;> simp (config := {decide := true}) only [PT.Le, inV, mkB, PT.set, VSt.kill, VSt.adopt, VSt.alloc, PT.filt, PT.map, List.map_cons, List.map_nil, noref, norefB, deadB, deadV, nos, nm, nmL, nmB, nmE, Pa.eqb, cond_true, cond_false, Bool.not_true, Bool.not_false, Bool.and_true, Bool.true_and, nmL_vi, flV_len, flP_len, flV_nm, flV_ok, flV_pv, flP_map, drop_flP, drop_flV, putC_flV, eqV2, eqV3, bneT, bneF, decide_true, decide_false, frzL_vi, frzL_flV, nmE_ag, nmE_at, frzE_ag, frzE_at, ofAg_len, ofAt_len, atL_vi, nmL_map_p, frzL_map_p, okL_p, toPVs_p, repsZ, nmL_reps, putC_vi, get_flV0, get_flV1, Int.toNat_zero, Int.toNat_one, Int.reduceToNat, eqV_slice, eqV_ptr, eqV_func, nilS, nilP, nilF, nmL_append, true_or, or_true, and_self, true_and, and_true, Option.some.injEq, reduceCtorEq, false_or, or_false, VV.p.injEq, PV.at.injEq, Value.int.injEq, sl1, vi, bl1, vb, nilV, sl1, e1, e2])
    (all_goals first | rfl | omega | exact ⟨rfl, by omega⟩)
  rintro n i ⟨hn', hi⟩
  simp only [inV, PT.set, mkB]
  have hui := hus i
  have hci := hcs i
  have hul1 := hul i
  have hcl1 := hcl i
  have hfin : i = N → upT c i = upT c N ∧ costT c i = costT c N := fun e => by rw [e]; exact ⟨rfl, rfl⟩
  generalize hU : upT c i = U at *
  generalize hC : costT c i = T at *
  (repeat (first | refine VC.seq ?_ | refine VC.block ?_ | refine VC.kill ?_ | refine VC.skip ?_ | refine VC.exit ?_ | refine VC.regA ?_ | refine VC.condT ?_ | refine VC.condF ?_))
  refine VC.condA ?_ ?_ <;> intro h' <;> (simp only [decide_eq_true_eq, decide_eq_false_iff_not, bne_iff_ne, ne_eq, bne_eq_false_iff_eq, beq_iff_eq, beq_eq_false_iff_ne, Bool.not_eq_true', Bool.not_eq_false', Bool.and_eq_true, Bool.or_eq_true, Int.natCast_inj] at h')
  · have h' : i < N := by omega
    have key : ∀ (u k : Int), u = (if i = 0 then -1 else c.up.getD i 0 % 18446744073709551616 % i) → k = (if i < c.cost.length then c.cost.getD i 0 % 18446744073709551616 % 1001 else 1) → upT c (i + 1) = U ++ [u] ∧ costT c (i + 1) = T ++ [k] := fun u k e1 e2 => by rw [hui, hci, e1, e2]; exact ⟨rfl, rfl⟩
    by_cases hi0 : i = 0
    · subst hi0
      by_cases hcc : 0 < c.cost.length
      · have hgd : c.cost.getD 0 0 = c.cost[0] := by rw [List.getD_eq_getElem?_getD, List.getElem?_eq_getElem hcc]; rfl
        obtain ⟨k1, k2⟩ := key (-1) (c.cost[0] % 18446744073709551616 % 1001) (by simp) (by rw [if_pos hcc, hgd])
        (repeat (first | refine VC.seq ?_ | refine VC.block ?_ | refine VC.kill ?_ | refine VC.skip ?_ | refine VC.exit ?_ | refine VC.regA ?_ | refine VC.condT ?_ | refine VC.condF ?_))
        refine ⟨_, 1, ?_, ⟨rfl, by omega⟩, ?_⟩
        · omega
        · (apply Go.Ab.V.G.weak; constructor <;> simp (config := {decide := true}) only [PT.Le, inV, mkB, PT.set, VSt.kill, VSt.adopt, VSt.alloc, PT.filt, PT.map, List.map_cons, List.map_nil, noref, norefB, deadB, deadV, nos, nm, nmL, nmB, nmE, Pa.eqb, cond_true, cond_false, Bool.not_true, Bool.not_false, Bool.and_true, Bool.true_and, nmL_vi, flV_len, flP_len, flV_nm, flV_ok, flV_pv, flP_map, drop_flP, drop_flV, putC_flV, eqV2, eqV3, bneT, bneF, decide_true, decide_false, frzL_vi, frzL_flV, nmE_ag, nmE_at, frzE_ag, frzE_at, ofAg_len, ofAt_len, atL_vi, nmL_map_p, frzL_map_p, okL_p, toPVs_p, repsZ, nmL_reps, putC_vi, get_flV0, get_flV1, Int.toNat_zero, Int.toNat_one, Int.reduceToNat, eqV_slice, eqV_ptr, eqV_func, nilS, nilP, nilF, nmL_append, true_or, or_true, and_self, true_and, and_true, Option.some.injEq, reduceCtorEq, false_or, or_false, VV.p.injEq, PV.at.injEq, Value.int.injEq, sl1, vi, bl1, vb, nilV, sl1, k1, k2, List.map_append])
          (all_goals first | rfl | omega | exact ⟨rfl, by omega⟩)
      · obtain ⟨k1, k2⟩ := key (-1) 1 (by simp) (by rw [if_neg hcc])
        (repeat (first | refine VC.seq ?_ | refine VC.block ?_ | refine VC.kill ?_ | refine VC.skip ?_ | refine VC.exit ?_ | refine VC.regA ?_ | refine VC.condT ?_ | refine VC.condF ?_))
        refine ⟨_, 1, ?_, ⟨rfl, by omega⟩, ?_⟩
        · omega
        · (apply Go.Ab.V.G.weak; constructor <;> simp (config := {decide := true}) only [PT.Le, inV, mkB, PT.set, VSt.kill, VSt.adopt, VSt.alloc, PT.filt, PT.map, List.map_cons, List.map_nil, noref, norefB, deadB, deadV, nos, nm, nmL, nmB, nmE, Pa.eqb, cond_true, cond_false, Bool.not_true, Bool.not_false, Bool.and_true, Bool.true_and, nmL_vi, flV_len, flP_len, flV_nm, flV_ok, flV_pv, flP_map, drop_flP, drop_flV, putC_flV, eqV2, eqV3, bneT, bneF, decide_true, decide_false, frzL_vi, frzL_flV, nmE_ag, nmE_at, frzE_ag, frzE_at, ofAg_len, ofAt_len, atL_vi, nmL_map_p, frzL_map_p, okL_p, toPVs_p, repsZ, nmL_reps, putC_vi, get_flV0, get_flV1, Int.toNat_zero, Int.toNat_one, Int.reduceToNat, eqV_slice, eqV_ptr, eqV_func, nilS, nilP, nilF, nmL_append, true_or, or_true, and_self, true_and, and_true, Option.some.injEq, reduceCtorEq, false_or, or_false, VV.p.injEq, PV.at.injEq, Value.int.injEq, sl1, vi, bl1, vb, nilV, sl1, k1, k2, List.map_append])
          (all_goals first | rfl | omega | exact ⟨rfl, by omega⟩)
    · have hup := hnup i h' (by omega)
      have hgu : c.up.getD i 0 = c.up[i] := by rw [List.getD_eq_getElem?_getD, List.getElem?_eq_getElem hup]; rfl
      have hb0 : 0 ≤ c.up[i] % 18446744073709551616 % (i : Int) := Int.emod_nonneg _ (by omega)
      have hb1 : c.up[i] % 18446744073709551616 % (i : Int) < i := Int.emod_lt_of_pos _ (by omega)
      have hi64 : (i : Int) % 18446744073709551616 = i := by omega
      have hb2 : 0 ≤ c.up[i] % 18446744073709551616 % ((i : Int) % 18446744073709551616) ∧ c.up[i] % 18446744073709551616 % ((i : Int) % 18446744073709551616) < i := by rw [hi64]; exact ⟨hb0, hb1⟩
      by_cases hcc : i < c.cost.length
      · have hgd : c.cost.getD i 0 = c.cost[i] := by rw [List.getD_eq_getElem?_getD, List.getElem?_eq_getElem hcc]; rfl
        obtain ⟨k1, k2⟩ := key (c.up[i] % 18446744073709551616 % i) (c.cost[i] % 18446744073709551616 % 1001) (by rw [if_neg hi0, hgu]) (by rw [if_pos hcc, hgd])
        (repeat (first | refine VC.seq ?_ | refine VC.block ?_ | refine VC.kill ?_ | refine VC.skip ?_ | refine VC.exit ?_ | refine VC.regA ?_ | refine VC.condT ?_ | refine VC.condF ?_))
        simp only [hi64]
        refine ⟨_, i + 1, ?_, ⟨rfl, by omega⟩, ?_⟩
        · omega
        · (apply Go.Ab.V.G.weak; constructor <;> simp (config := {decide := true}) only [PT.Le, inV, mkB, PT.set, VSt.kill, VSt.adopt, VSt.alloc, PT.filt, PT.map, List.map_cons, List.map_nil, noref, norefB, deadB, deadV, nos, nm, nmL, nmB, nmE, Pa.eqb, cond_true, cond_false, Bool.not_true, Bool.not_false, Bool.and_true, Bool.true_and, nmL_vi, flV_len, flP_len, flV_nm, flV_ok, flV_pv, flP_map, drop_flP, drop_flV, putC_flV, eqV2, eqV3, bneT, bneF, decide_true, decide_false, frzL_vi, frzL_flV, nmE_ag, nmE_at, frzE_ag, frzE_at, ofAg_len, ofAt_len, atL_vi, nmL_map_p, frzL_map_p, okL_p, toPVs_p, repsZ, nmL_reps, putC_vi, get_flV0, get_flV1, Int.toNat_zero, Int.toNat_one, Int.reduceToNat, eqV_slice, eqV_ptr, eqV_func, nilS, nilP, nilF, nmL_append, true_or, or_true, and_self, true_and, and_true, Option.some.injEq, reduceCtorEq, false_or, or_false, VV.p.injEq, PV.at.injEq, Value.int.injEq, sl1, vi, bl1, vb, nilV, sl1, k1, k2, List.map_append])
          (all_goals first | rfl | omega | exact ⟨rfl, by omega⟩)
      · obtain ⟨k1, k2⟩ := key (c.up[i] % 18446744073709551616 % i) 1 (by rw [if_neg hi0, hgu]) (by rw [if_neg hcc])
        (repeat (first | refine VC.seq ?_ | refine VC.block ?_ | refine VC.kill ?_ | refine VC.skip ?_ | refine VC.exit ?_ | refine VC.regA ?_ | refine VC.condT ?_ | refine VC.condF ?_))
        simp only [hi64]
        refine ⟨_, i + 1, ?_, ⟨rfl, by omega⟩, ?_⟩
        · omega
        · (apply Go.Ab.V.G.weak; constructor <;> simp (config := {decide := true}) only [PT.Le, inV, mkB, PT.set, VSt.kill, VSt.adopt, VSt.alloc, PT.filt, PT.map, List.map_cons, List.map_nil, noref, norefB, deadB, deadV, nos, nm, nmL, nmB, nmE, Pa.eqb, cond_true, cond_false, Bool.not_true, Bool.not_false, Bool.and_true, Bool.true_and, nmL_vi, flV_len, flP_len, flV_nm, flV_ok, flV_pv, flP_map, drop_flP, drop_flV, putC_flV, eqV2, eqV3, bneT, bneF, decide_true, decide_false, frzL_vi, frzL_flV, nmE_ag, nmE_at, frzE_ag, frzE_at, ofAg_len, ofAt_len, atL_vi, nmL_map_p, frzL_map_p, okL_p, toPVs_p, repsZ, nmL_reps, putC_vi, get_flV0, get_flV1, Int.toNat_zero, Int.toNat_one, Int.reduceToNat, eqV_slice, eqV_ptr, eqV_func, nilS, nilP, nilF, nmL_append, true_or, or_true, and_self, true_and, and_true, Option.some.injEq, reduceCtorEq, false_or, or_false, VV.p.injEq, PV.at.injEq, Value.int.injEq, sl1, vi, bl1, vb, nilV, sl1, k1, k2, List.map_append])
          (all_goals first | rfl | omega | exact ⟨rfl, by omega⟩)
  · obtain ⟨f1, f2⟩ := hfin (by omega)
    have hiN : i = N := by omega
    subst hiN
    rw [← f1, ← f2]
    have hsl := fun k => shipT_len c k
    clear hui hci hus hcs hfin f1 f2
    (repeat (first | refine VC.seq ?_ | refine VC.block ?_ | refine VC.kill ?_ | refine VC.skip ?_ | refine VC.exit ?_ | refine VC.regA ?_ | refine VC.condT ?_ | refine VC.condF ?_))
    refine VC.loopG (fun (k : Nat) => ⟨inV [p1, p2, p4, p5, p6, p12] [vi m, .op 0 p2 0, .op 0 p4 0, .op 0 p5 0, vi i, vi k] .lf, mkB [(p2, .cells [sl1 c.up, sl1 c.cost, sl1 c.ships]), (p4, .cells [nilV, nilV, nilV]), (p5, .cells [.os 1 p56 i, .os 1 p61 i, .os 1 p89 k]), (p56, .cells (U.map vi)), (p61, .cells (T.map vi)), (p89, .cells ((shipT c k).map vi))] .lf, [], none⟩) (fun n k => n = c.ships.length - k ∧ k ≤ c.ships.length ∧ k ≤ m) (x := 0) ?_ ⟨rfl, Nat.zero_le _, Nat.zero_le _⟩ ?_
    · have e1 : shipT c 0 = [] := rfl
      (apply Go.Ab.V.G.weak; constructor <;> simp (config := {decide := true}) only [PT.Le, inV, mkB, PT.set, VSt.kill, VSt.adopt, VSt.alloc, PT.filt, PT.map, List.map_cons, List.map_nil, noref, norefB, deadB, deadV, nos, nm, nmL, nmB, nmE, Pa.eqb, cond_true, cond_false, Bool.not_true, Bool.not_false, Bool.and_true, Bool.true_and, nmL_vi, flV_len, flP_len, flV_nm, flV_ok, flV_pv, flP_map, drop_flP, drop_flV, putC_flV, eqV2, eqV3, bneT, bneF, decide_true, decide_false, frzL_vi, frzL_flV, nmE_ag, nmE_at, frzE_ag, frzE_at, ofAg_len, ofAt_len, atL_vi, nmL_map_p, frzL_map_p, okL_p, toPVs_p, repsZ, nmL_reps, putC_vi, get_flV0, get_flV1, Int.toNat_zero, Int.toNat_one, Int.reduceToNat, eqV_slice, eqV_ptr, eqV_func, nilS, nilP, nilF, nmL_append, true_or, or_true, and_self, true_and, and_true, Option.some.injEq, reduceCtorEq, false_or, or_false, VV.p.injEq, PV.at.injEq, Value.int.injEq, sl1, vi, bl1, vb, nilV, sl1, e1])
      (all_goals first | rfl | omega | exact ⟨rfl, by omega⟩)
    rintro n2 k ⟨hn2, hk, hkm⟩
    simp only [inV, PT.set, mkB]
    have hlk := hsl k
    rw [Nat.min_eq_left hk] at hlk
    have hss := shipT_succ c k
    have hfin2 : (k = m ∨ k = c.ships.length) → shipT c m = shipT c k := fun e => by
      unfold shipT
      rcases e with rfl | rfl
      · rfl
      · rw [List.take_of_length_le (by omega), List.take_of_length_le (by omega)]
    rw [hNN] at hss
    have hi64 : (i : Int) % 18446744073709551616 = i := by omega
    generalize hP : shipT c k = P at *
    by_cases hk1 : k < c.ships.length
    · by_cases hk2 : k < m
      · have hss := hss hk1
        have hb0 : 0 ≤ c.ships[k] % 18446744073709551616 % (i : Int) := Int.emod_nonneg _ (by omega)
        have hb1 : c.ships[k] % 18446744073709551616 % (i : Int) < i := Int.emod_lt_of_pos _ (by omega)
        have hb2 : 0 ≤ c.ships[k] % 18446744073709551616 % ((i : Int) % 18446744073709551616) ∧ c.ships[k] % 18446744073709551616 % ((i : Int) % 18446744073709551616) < i := by rw [hi64]; exact ⟨hb0, hb1⟩
        clear hfin2
        (repeat (first | refine VC.seq ?_ | refine VC.block ?_ | refine VC.kill ?_ | refine VC.skip ?_ | refine VC.exit ?_ | refine VC.regA ?_ | refine VC.condT ?_ | refine VC.condF ?_))
        simp only [hi64]
        refine ⟨_, k + 1, ?_, ⟨rfl, by omega, by omega⟩, ?_⟩
        · omega
        · (apply Go.Ab.V.G.weak; constructor <;> simp (config := {decide := true}) only [PT.Le, inV, mkB, PT.set, VSt.kill, VSt.adopt, VSt.alloc, PT.filt, PT.map, List.map_cons, List.map_nil, noref, norefB, deadB, deadV, nos, nm, nmL, nmB, nmE, Pa.eqb, cond_true, cond_false, Bool.not_true, Bool.not_false, Bool.and_true, Bool.true_and, nmL_vi, flV_len, flP_len, flV_nm, flV_ok, flV_pv, flP_map, drop_flP, drop_flV, putC_flV, eqV2, eqV3, bneT, bneF, decide_true, decide_false, frzL_vi, frzL_flV, nmE_ag, nmE_at, frzE_ag, frzE_at, ofAg_len, ofAt_len, atL_vi, nmL_map_p, frzL_map_p, okL_p, toPVs_p, repsZ, nmL_reps, putC_vi, get_flV0, get_flV1, Int.toNat_zero, Int.toNat_one, Int.reduceToNat, eqV_slice, eqV_ptr, eqV_func, nilS, nilP, nilF, nmL_append, true_or, or_true, and_self, true_and, and_true, Option.some.injEq, reduceCtorEq, false_or, or_false, VV.p.injEq, PV.at.injEq, Value.int.injEq, sl1, vi, bl1, vb, nilV, sl1, hss, List.map_append])
          (all_goals first | rfl | omega | exact ⟨rfl, by omega⟩)
      · have hf := hfin2 (.inl (by omega))
        rw [hf]
        clear hfin2 hss
        (repeat (first | refine VC.seq ?_ | refine VC.block ?_ | refine VC.kill ?_ | refine VC.skip ?_ | refine VC.exit ?_ | refine VC.regA ?_ | refine VC.condT ?_ | refine VC.condF ?_))
        refine VC.ret (Fin.frzA (cs := P.map pi) p89 (hb := rfl) (hc := toPVs_vi _) (Fin.frzA (cs := T.map pi) p61 (hb := rfl) (hc := by rw [frzL_vi]; exact toPVs_vi T) (Fin.frzA (cs := U.map pi) p56 (hb := rfl) (hc := by rw [frzL_vi, frzL_vi]; exact toPVs_vi U) (Fin.A ?_))))
        simp only [sl1, hul1, hcl1, hlk]; rfl
    · have hf := hfin2 (.inr (by omega))
      rw [hf]
      clear hfin2 hss
      (repeat (first | refine VC.seq ?_ | refine VC.block ?_ | refine VC.kill ?_ | refine VC.skip ?_ | refine VC.exit ?_ | refine VC.regA ?_ | refine VC.condT ?_ | refine VC.condF ?_))
      refine VC.ret (Fin.frzA (cs := P.map pi) p89 (hb := rfl) (hc := toPVs_vi _) (Fin.frzA (cs := T.map pi) p61 (hb := rfl) (hc := by rw [frzL_vi]; exact toPVs_vi T) (Fin.frzA (cs := U.map pi) p56 (hb := rfl) (hc := by rw [frzL_vi, frzL_vi]; exact toPVs_vi U) (Fin.A ?_))))
      simp only [sl1, hul1, hcl1, hlk]; rfl
end Go.Ab.Dues

namespace Go.Ab.Dues
open Go.Ab.V
set_option maxRecDepth 100000
end Go.Ab.Dues

namespace Go.Ab.Dues
open Go.Ab.V
set_option maxRecDepth 100000
end Go.Ab.Dues

namespace Go.Ab.Dues
open Go.Ab.V
set_option maxRecDepth 100000
/-! ### Orders -/
def natI (l : List Nat) : List Int := l.map fun n : Nat => (n : Int)
theorem natI_len (l : List Nat) : (natI l).length = l.length := by simp [natI]
theorem natI_get (l : List Nat) (i : Nat) (h : i < (natI l).length) : (natI l)[i] = ((l[i]'(by simpa [natI] using h) : Nat) : Int) := by simp [natI]
theorem natI_drop (l : List Nat) (i : Nat) : (natI l).drop i = natI (l.drop i) := by simp [natI]
/-! ### Shares by an order -/
end Go.Ab.Dues

namespace Go.Ab.Dues
open Go.Ab.V
set_option maxRecDepth 100000
end Go.Ab.Dues

namespace Go.Ab.Dues
open Go.Ab.V
set_option maxRecDepth 100000
set_option maxHeartbeats 1000000 in
theorem Same_ok (a b : List (Int × Int)) (ha : a.length ≤ 1000) : VCall cfg 20 [slP a, slP b] [] [] (vb (decide (a = b))) [] := by
  unfold slP
  (refine VCall.mk (fn := a20) rfl rfl rfl ?_; simp only [a20, inV, mkB, nmsL, PT.set])
  (repeat (first | refine VC.seq ?_ | refine VC.block ?_ | refine VC.kill ?_ | refine VC.skip ?_ | refine VC.exit ?_ | refine VC.regA ?_ | refine VC.condT ?_ | refine VC.condF ?_))
  refine VC.condA ?_ ?_ <;> intro h <;> (simp only [decide_eq_true_eq, decide_eq_false_iff_not, bne_iff_ne, ne_eq, bne_eq_false_iff_eq, beq_iff_eq, beq_eq_false_iff_ne, Bool.not_eq_true', Bool.not_eq_false', Bool.and_eq_true, Bool.or_eq_true, Int.natCast_inj] at h)
  · (repeat (first | refine VC.seq ?_ | refine VC.block ?_ | refine VC.kill ?_ | refine VC.skip ?_ | refine VC.exit ?_ | refine VC.regA ?_ | refine VC.condT ?_ | refine VC.condF ?_))
    refine VC.ret (Fin.A ?_)
    rw [decide_eq_false (by intro e; rw [e] at h; exact h rfl)]; rfl
  · (repeat (first | refine VC.seq ?_ | refine VC.block ?_ | refine VC.kill ?_ | refine VC.skip ?_ | refine VC.exit ?_ | refine VC.regA ?_ | refine VC.condT ?_ | refine VC.condF ?_))
    have hl : a.length = b.length := by omega
    refine VC.loopG (fun (i : Nat) => ⟨inV [p0, p1, p5] [slP a, slP b, vi i] .lf, .lf, [], none⟩) (fun n i => n = a.length - i ∧ i ≤ a.length ∧ a.take i = b.take i) (x := 0) ?_ ⟨rfl, by omega, rfl⟩ ?_
    · (apply Go.Ab.V.G.weak; constructor <;> simp (config := {decide := true}) only [PT.Le, inV, mkB, PT.set, VSt.kill, VSt.adopt, VSt.alloc, PT.filt, PT.map, List.map_cons, List.map_nil, noref, norefB, deadB, deadV, nos, nm, nmL, nmB, nmE, Pa.eqb, cond_true, cond_false, Bool.not_true, Bool.not_false, Bool.and_true, Bool.true_and, nmL_vi, flV_len, flP_len, flV_nm, flV_ok, flV_pv, flP_map, drop_flP, drop_flV, putC_flV, eqV2, eqV3, bneT, bneF, decide_true, decide_false, frzL_vi, frzL_flV, nmE_ag, nmE_at, frzE_ag, frzE_at, ofAg_len, ofAt_len, atL_vi, nmL_map_p, frzL_map_p, okL_p, toPVs_p, repsZ, nmL_reps, putC_vi, get_flV0, get_flV1, Int.toNat_zero, Int.toNat_one, Int.reduceToNat, eqV_slice, eqV_ptr, eqV_func, nilS, nilP, nilF, nmL_append, true_or, or_true, and_self, true_and, and_true, Option.some.injEq, reduceCtorEq, false_or, or_false, VV.p.injEq, PV.at.injEq, Value.int.injEq, sl1, vi, bl1, vb, nilV, slP])
    rintro n i ⟨hn, hi, he⟩
    simp only [inV, PT.set, slP]
    (repeat (first | refine VC.seq ?_ | refine VC.block ?_ | refine VC.kill ?_ | refine VC.skip ?_ | refine VC.exit ?_ | refine VC.regA ?_ | refine VC.condT ?_ | refine VC.condF ?_))
    refine VC.condA ?_ ?_ <;> intro h <;> (simp only [decide_eq_true_eq, decide_eq_false_iff_not, bne_iff_ne, ne_eq, bne_eq_false_iff_eq, beq_iff_eq, beq_eq_false_iff_ne, Bool.not_eq_true', Bool.not_eq_false', Bool.and_eq_true, Bool.or_eq_true, Int.natCast_inj] at h)
    · have h : i < a.length := by omega
      (repeat (first | refine VC.seq ?_ | refine VC.block ?_ | refine VC.kill ?_ | refine VC.skip ?_ | refine VC.exit ?_ | refine VC.regA ?_ | refine VC.condT ?_ | refine VC.condF ?_))
      refine VC.condA ?_ ?_ <;> intro h2 <;> (simp only [decide_eq_true_eq, decide_eq_false_iff_not, bne_iff_ne, ne_eq, bne_eq_false_iff_eq, beq_iff_eq, beq_eq_false_iff_ne, Bool.not_eq_true', Bool.not_eq_false', Bool.and_eq_true, Bool.or_eq_true, Int.natCast_inj] at h2)
      · (repeat (first | refine VC.seq ?_ | refine VC.block ?_ | refine VC.kill ?_ | refine VC.skip ?_ | refine VC.exit ?_ | refine VC.regA ?_ | refine VC.condT ?_ | refine VC.condF ?_))
        refine VC.ret (Fin.A ?_)
        rw [decide_eq_false (by intro e; subst e; exact h2 ⟨rfl, rfl⟩)]; rfl
      · (repeat (first | refine VC.seq ?_ | refine VC.block ?_ | refine VC.kill ?_ | refine VC.skip ?_ | refine VC.exit ?_ | refine VC.regA ?_ | refine VC.condT ?_ | refine VC.condF ?_))
        refine ⟨_, i + 1, ?_, ⟨rfl, by omega, ?_⟩, ?_⟩
        · omega
        · rw [List.take_add_one, List.take_add_one, List.getElem?_eq_getElem h, List.getElem?_eq_getElem (by omega : i < b.length), he]
          have : a[i] = b[i] := Prod.ext h2.1 h2.2
          rw [this]
        · (apply Go.Ab.V.G.weak; constructor <;> simp (config := {decide := true}) only [PT.Le, inV, mkB, PT.set, VSt.kill, VSt.adopt, VSt.alloc, PT.filt, PT.map, List.map_cons, List.map_nil, noref, norefB, deadB, deadV, nos, nm, nmL, nmB, nmE, Pa.eqb, cond_true, cond_false, Bool.not_true, Bool.not_false, Bool.and_true, Bool.true_and, nmL_vi, flV_len, flP_len, flV_nm, flV_ok, flV_pv, flP_map, drop_flP, drop_flV, putC_flV, eqV2, eqV3, bneT, bneF, decide_true, decide_false, frzL_vi, frzL_flV, nmE_ag, nmE_at, frzE_ag, frzE_at, ofAg_len, ofAt_len, atL_vi, nmL_map_p, frzL_map_p, okL_p, toPVs_p, repsZ, nmL_reps, putC_vi, get_flV0, get_flV1, Int.toNat_zero, Int.toNat_one, Int.reduceToNat, eqV_slice, eqV_ptr, eqV_func, nilS, nilP, nilF, nmL_append, true_or, or_true, and_self, true_and, and_true, Option.some.injEq, reduceCtorEq, false_or, or_false, VV.p.injEq, PV.at.injEq, Value.int.injEq, sl1, vi, bl1, vb, nilV, slP]); rfl
    · (repeat (first | refine VC.seq ?_ | refine VC.block ?_ | refine VC.kill ?_ | refine VC.skip ?_ | refine VC.exit ?_ | refine VC.regA ?_ | refine VC.condT ?_ | refine VC.condF ?_))
      refine VC.ret (Fin.A ?_)
      rw [List.take_of_length_le (by omega), List.take_of_length_le (by omega)] at he
      rw [decide_eq_true he]; rfl
end Go.Ab.Dues

namespace Go.Ab.Dues
open Go.Ab.V
set_option maxRecDepth 100000
end Go.Ab.Dues

namespace Go.Ab.Dues
open Go.Ab.V
set_option maxRecDepth 100000
/-! ### Least, Greatest, Without -/
end Go.Ab.Dues

namespace Go.Ab.Dues
open Go.Ab.V
set_option maxRecDepth 100000
def idx (l : List Int) (v : Int) : Int := if v ∈ l then (l.findIdx fun y => decide (y = v) : Nat) else -1
theorem idx_hit {l : List Int} {v : Int} {i : Nat} (h : i < l.length) (hv : l[i] = v) (hn : ∀ k (hk : k < i), l[k]'(by omega) ≠ v) : idx l v = i := by
  unfold idx
  rw [if_pos (by rw [← hv]; exact List.getElem_mem h)]
  congr 1
  rw [List.findIdx_eq h]
  exact ⟨by simp [hv], fun j hj => by simp [hn j hj]⟩
theorem idx_pos (l : List Int) (v : Int) : decide (idx l v ≥ 0) = decide (v ∈ l) := by
  unfold idx
  by_cases h : v ∈ l
  · rw [if_pos h]; simp [h]
  · rw [if_neg h]; simp [h]
set_option maxHeartbeats 4000000 in
theorem Index_ok (l : List Int) (v : Int) (hl : l.length ≤ 1000000) : VCall cfg 88 [sl1 l, vi v] [] [] (vi (idx l v)) [] := by
  (refine VCall.mk (fn := a88) rfl rfl rfl ?_; simp only [a88, inV, mkB, nmsL, PT.set])
  (repeat (first | refine VC.seq ?_ | refine VC.block ?_ | refine VC.kill ?_ | refine VC.skip ?_ | refine VC.exit ?_ | refine VC.regA ?_ | refine VC.condT ?_ | refine VC.condF ?_))
  refine VC.loopG (fun (i : Nat) => ⟨inV [p0, p1, p7, p8] [sl1 l, vi v, vi l.length, vi i] .lf, .lf, [], none⟩) (fun n i => n = l.length - i ∧ i ≤ l.length ∧ ∀ k (hk : k < i) (hk' : k < l.length), l[k] ≠ v) (x := 0) ?_ ⟨rfl, by omega, fun k hk => absurd hk (Nat.not_lt_zero k)⟩ ?_
  · (apply Go.Ab.V.G.weak; constructor <;> simp (config := {decide := true}) only [PT.Le, inV, mkB, PT.set, VSt.kill, VSt.adopt, VSt.alloc, PT.filt, PT.map, List.map_cons, List.map_nil, noref, norefB, deadB, deadV, nos, nm, nmL, nmB, nmE, Pa.eqb, cond_true, cond_false, Bool.not_true, Bool.not_false, Bool.and_true, Bool.true_and, nmL_vi, flV_len, flP_len, flV_nm, flV_ok, flV_pv, flP_map, drop_flP, drop_flV, putC_flV, eqV2, eqV3, bneT, bneF, decide_true, decide_false, frzL_vi, frzL_flV, nmE_ag, nmE_at, frzE_ag, frzE_at, ofAg_len, ofAt_len, atL_vi, nmL_map_p, frzL_map_p, okL_p, toPVs_p, repsZ, nmL_reps, putC_vi, get_flV0, get_flV1, Int.toNat_zero, Int.toNat_one, Int.reduceToNat, eqV_slice, eqV_ptr, eqV_func, nilS, nilP, nilF, nmL_append, true_or, or_true, and_self, true_and, and_true, Option.some.injEq, reduceCtorEq, false_or, or_false, VV.p.injEq, PV.at.injEq, Value.int.injEq, sl1, vi, bl1, vb, nilV, sl1])
    (all_goals first | rfl | omega | exact ⟨rfl, by omega⟩)
  rintro n i ⟨hn, hi, ho⟩
  simp only [inV, PT.set]
  (repeat (first | refine VC.seq ?_ | refine VC.block ?_ | refine VC.kill ?_ | refine VC.skip ?_ | refine VC.exit ?_ | refine VC.regA ?_ | refine VC.condT ?_ | refine VC.condF ?_))
  refine VC.condA ?_ ?_ <;> intro h <;> (simp only [decide_eq_true_eq, decide_eq_false_iff_not, bne_iff_ne, ne_eq, bne_eq_false_iff_eq, beq_iff_eq, beq_eq_false_iff_ne, Bool.not_eq_true', Bool.not_eq_false', Bool.and_eq_true, Bool.or_eq_true, Int.natCast_inj] at h)
  · have h : i < l.length := by omega
    (repeat (first | refine VC.seq ?_ | refine VC.block ?_ | refine VC.kill ?_ | refine VC.skip ?_ | refine VC.exit ?_ | refine VC.regA ?_ | refine VC.condT ?_ | refine VC.condF ?_))
    refine VC.condA ?_ ?_ <;> intro h' <;> (simp only [decide_eq_true_eq, decide_eq_false_iff_not, bne_iff_ne, ne_eq, bne_eq_false_iff_eq, beq_iff_eq, beq_eq_false_iff_ne, Bool.not_eq_true', Bool.not_eq_false', Bool.and_eq_true, Bool.or_eq_true, Int.natCast_inj] at h')
    · (repeat (first | refine VC.seq ?_ | refine VC.block ?_ | refine VC.kill ?_ | refine VC.skip ?_ | refine VC.exit ?_ | refine VC.regA ?_ | refine VC.condT ?_ | refine VC.condF ?_))
      rw [idx_hit h h'.symm (fun k hk => ho k hk (by omega))]
      exact VC.ret (Fin.A rfl)
    · (repeat (first | refine VC.seq ?_ | refine VC.block ?_ | refine VC.kill ?_ | refine VC.skip ?_ | refine VC.exit ?_ | refine VC.regA ?_ | refine VC.condT ?_ | refine VC.condF ?_))
      refine ⟨_, i + 1, ?_, ⟨rfl, by omega, fun k hk hk' => ?_⟩, ?_⟩
      · omega
      · rcases Nat.lt_or_ge k i with h1 | h1
        · exact ho k h1 hk'
        · have : k = i := by omega
          subst this; exact fun h => h' h.symm
      · (apply Go.Ab.V.G.weak; constructor <;> simp (config := {decide := true}) only [PT.Le, inV, mkB, PT.set, VSt.kill, VSt.adopt, VSt.alloc, PT.filt, PT.map, List.map_cons, List.map_nil, noref, norefB, deadB, deadV, nos, nm, nmL, nmB, nmE, Pa.eqb, cond_true, cond_false, Bool.not_true, Bool.not_false, Bool.and_true, Bool.true_and, nmL_vi, flV_len, flP_len, flV_nm, flV_ok, flV_pv, flP_map, drop_flP, drop_flV, putC_flV, eqV2, eqV3, bneT, bneF, decide_true, decide_false, frzL_vi, frzL_flV, nmE_ag, nmE_at, frzE_ag, frzE_at, ofAg_len, ofAt_len, atL_vi, nmL_map_p, frzL_map_p, okL_p, toPVs_p, repsZ, nmL_reps, putC_vi, get_flV0, get_flV1, Int.toNat_zero, Int.toNat_one, Int.reduceToNat, eqV_slice, eqV_ptr, eqV_func, nilS, nilP, nilF, nmL_append, true_or, or_true, and_self, true_and, and_true, Option.some.injEq, reduceCtorEq, false_or, or_false, VV.p.injEq, PV.at.injEq, Value.int.injEq, sl1, vi, bl1, vb, nilV, sl1])
        (all_goals first | rfl | omega | exact ⟨rfl, by omega⟩)
  · have h : i = l.length := by omega
    have : idx l v = -1 := by
      unfold idx
      rw [if_neg]
      intro hm
      obtain ⟨k, hk, e⟩ := List.mem_iff_getElem.1 hm
      exact ho k (by omega) hk e
    rw [this]
    (repeat (first | refine VC.seq ?_ | refine VC.block ?_ | refine VC.kill ?_ | refine VC.skip ?_ | refine VC.exit ?_ | refine VC.regA ?_ | refine VC.condT ?_ | refine VC.condF ?_))
    exact VC.ret (Fin.A rfl)
set_option maxHeartbeats 4000000 in
theorem Contains_ok (l : List Int) (v : Int) (hl : l.length ≤ 1000000) : VCall cfg 87 [sl1 l, vi v] [] [] (vb (decide (v ∈ l))) [] := by
  have k := Index_ok l v hl
  rw [← idx_pos]
  (refine VCall.mk (fn := a87) rfl rfl rfl ?_; simp only [a87, inV, mkB, nmsL, PT.set])
  (repeat (first | refine VC.seq ?_ | refine VC.block ?_ | refine VC.kill ?_ | refine VC.skip ?_ | refine VC.exit ?_ | refine VC.regA ?_ | refine VC.condT ?_ | refine VC.condF ?_))
  (refine VC.regCA ?_; refine VO.moreA ?_; refine VO.call0A (no_orc _ (by decide)) k ?_; refine VO.endA ?_; (repeat (first | refine VC.seq ?_ | refine VC.block ?_ | refine VC.kill ?_ | refine VC.skip ?_ | refine VC.exit ?_ | refine VC.regA ?_ | refine VC.condT ?_ | refine VC.condF ?_)))
  exact VC.ret (Fin.A rfl)
/-! ### All orders -/
def outR (f : Nat → List (List Nat)) (n : Nat) : Nat → List (List Nat)
  | 0 => []
  | r + 1 => f (n - (r + 1)) ++ outR f n r
def outs (n : Nat) : Nat → List Nat → List (List Nat)
  | 0, l => [l]
  | d + 1, l => outR (fun s => if s ∈ l then [] else outs n d (l ++ [s])) n n
def itm (l : List Nat) : Itm := ([.os 1 p40 l.length], [(p40, .cells ((natI l).map vi))])
def itms (L : List (List Nat)) : List Itm := L.map itm
theorem itms_app (a b : List (List Nat)) : itms (a ++ b) = itms a ++ itms b := by simp [itms]
/-- The slice of the order so far, with room for 'c'. -/
def lv (m c : Nat) : VV := if m = c then .os 1 p40 m else .ob 1 p40 0 m c
def gcap (n : Nat) : List VV := [.op 0 p3 0, .p (.fp 0 [pi n]), .op 0 p2 0, .op 0 p4 0]
def gB (kk m c : Nat) (n : Nat) : List (Pa × VB) := [(p3, .cells [lv m c]), (p2, .cells [.yl kk]), (p4, .cells [.clos 86 [] (gcap n)])]
def gR (kk n m : Nat) (l : List Nat) (rest : List Itm) (y : VV) (B' : List (Pa × VB)) (rest' : List Itm) (live : Bool) : Prop :=
  (live = true ∧ y = vb true ∧ rest' = rest ∧ ∃ (c : Nat) (A : List Int), m ≤ c ∧ c ≤ n ∧ A.length = c ∧ A.take m = natI l ∧ B' = gB kk m c n ++ [(p40, .cells (A.map vi))]) ∨ (live = false ∧ y = vb false ∧ B' = [])
theorem take_set_succ (A : List Int) (m : Nat) (x : Int) (h : m < A.length) : (A.set m x).take (m + 1) = A.take m ++ [x] := by
  rw [List.take_add_one, List.getElem?_set_self h]
  simp [List.take_set_of_le]
theorem VC.exG {C : Cfg} {S : VSt} {c : ACode} {Q : Ex → VSt → Prop} {α : Type} (st : α → VSt) (P : α → Prop) (hg : ∃ x, P x ∧ G S (st x)) (hq : ∀ x, P x → VC C c (st x) Q) : VC C c S Q :=
  let ⟨x, hx, g⟩ := hg; VC.ghost g (hq x hx)
def GrowAt (kk n d : Nat) : Prop := ∀ (rest : List Itm) (l : List Nat) (c : Nat) (A : List Int), l.length + d = n → l.length ≤ c → c ≤ n → A.length = c → A.take l.length = natI l →
    VYCall cfg 86 kk (gcap n) (gB kk l.length c n) [(p40, .cells (A.map vi))] false (itms (outs n d l) ++ rest) (gR kk n l.length l rest)
set_option maxHeartbeats 8000000 in
theorem grow_0 (kk n : Nat) : GrowAt kk n 0 := by
    intro rest l c A hd h1 h2 h3 h4
    have hc : c = l.length := by omega
    have hA : A = natI l := by rw [← h4, List.take_of_length_le (by omega)]
    have hln : l.length = n := by omega
    subst hA hc
    refine VYCall.mk (fn := a86) rfl rfl ?_
    simp only [a86, gcap, gB, lv, if_pos, inV, PT.set, mkB, nmsL, List.cons_append, List.nil_append, outs, itms, List.map_cons, List.map_nil, itm]
    (repeat (first | refine VC.seq ?_ | refine VC.block ?_ | refine VC.kill ?_ | refine VC.skip ?_ | refine VC.exit ?_ | refine VC.regA ?_ | refine VC.condT ?_ | refine VC.condF ?_))
    apply VC.regC
    · (simp (config := {decide := false, maxSteps := 1000000}) (disch := omega) only [vev_call, putC_c0, putC_n0, putC_cs, ble0, List.getElem?_cons_zero, List.getElem?_cons_succ, runU, isCall, wantV, vev, evV, ofVal, ofAtom, atomB, cond_true, cond_false, PT.get, PT.set, PT.filt, PT.map, Option.getD_some, Option.getD_none, ret1V, ret1X, v_ld, v_ias, v_iad, v_fad, v_slsl, v_slarr, v_st, v_app, v_cpy, v_clr, v_len, v_look, v_mset, elsV, partV, newV, free, atV, atI, atL, toVal, cellsV, okV, VSt.put, VSt.kill, VSt.alloc, VSt.frz, VSt.adopt, noref, norefB, deadB, deadV, nos, nm, nmL, nmB, nmE, Pa.eqb, Bool.not_false, Bool.not_true, Bool.and_true, Bool.true_and, Bool.false_and, Bool.and_false, bin, intOps, intBin, cvt, un, goInt, bndsV, bndV, Option.map_some, Option.map_none, List.map_cons, List.map_nil, Int.toNat_natCast, Nat.mul_one, Nat.zero_add, beq_true, beq_false, beq_self_eq_true, List.length_map, List.length_cons, List.length_nil, List.length_append, fillV, pEvV, repsV, List.append_nil, List.nil_append, if_pos, if_neg, reduceIte, List.getElem?_map, List.getElem?_drop, Nat.add_zero, List.getElem?_eq_getElem, Go.IntWalk.i64_in, wrap_u64, tmod_pos, eq_self, true_and, and_true, and_self, List.all_cons, List.all_nil, nmL_vi, flV_len, flP_len, flV_nm, flV_ok, flV_pv, flP_map, drop_flP, drop_flV, putC_flV, eqV2, eqV3, bneT, bneF, decide_true, decide_false, frzL_vi, frzL_flV, nmE_ag, nmE_at, frzE_ag, frzE_at, ofAg_len, ofAt_len, atL_vi, nmL_map_p, frzL_map_p, okL_p, toPVs_p, repsZ, nmL_reps, putC_vi, get_flV0, get_flV1, Int.toNat_zero, Int.toNat_one, Int.reduceToNat, eqV_slice, eqV_ptr, eqV_func, nilS, nilP, nilF, nmL_append, okL_vi, toPVs_vi, toPVs, toPV, frzV, frzL, frzB, resVV, vi, vb, nilV, sl1, bl1, pi, foldV, max2, min2, max_eq, min_eq, Int.tdiv_eq_ediv_of_nonneg, Int.cast_ofNat_Int, Option.isSome_none, Option.isSome_some, Option.isNone_none, Option.isNone_some, and_false, false_and, sl2, sl1P, slP, min_cast, take_map_pi, map_pi, Nat.sub_zero, Nat.zero_mul, List.length_take, decide_eq_true, decide_eq_false, Bool.true_eq_false, Bool.false_eq_true, beqT, beqF, ibeq, ibne, List.take_zero, List.take_succ_cons, List.drop_zero, List.drop_succ_cons, List.drop_nil, List.take_nil, List.cons_append, Bool.not_true, Bool.not_false])
      rfl
    refine VO.yieldA (fun b _ => ?_) (hB := by simp [mkB, PT.set, PT.Le]) (hn := by simp only [nmsB, nmB, nmL_vi]; rfl)
    refine VO.endA ?_
    (repeat (first | refine VC.seq ?_ | refine VC.block ?_ | refine VC.kill ?_ | refine VC.skip ?_ | refine VC.exit ?_ | refine VC.regA ?_ | refine VC.condT ?_ | refine VC.condF ?_))
    cases b with
    | false => exact VC.ret ⟨_, _, [], rest, false, G.refl, rfl, rfl, .inr ⟨rfl, rfl, rfl⟩, trivial, rfl, rfl⟩
    | true =>
      refine VC.ret ⟨_, _, gB kk l.length l.length n ++ [(p40, .cells ((natI l).map vi))], rest, true, G.refl, rfl, rfl, .inl ⟨rfl, rfl, rfl, l.length, natI l, Nat.le_refl _, by omega, natI_len l, by rw [List.take_of_length_le (by rw [natI_len]; exact Nat.le_refl _)], rfl⟩, ?_, rfl, rfl⟩
      simp [gB, lv, gcap, mkB, PT.set, PT.Le, pi]
set_option maxHeartbeats 8000000 in
theorem grow_s (kk n d : Nat) (hn : n ≤ 7) (ih : GrowAt kk n d) : GrowAt kk n (d + 1) := by
    intro rest l c A hd h1 h2 h3 h4
    have hmn : l.length < n := by omega
    refine VYCall.mk (fn := a86) rfl rfl ?_
    obtain ⟨m, hm⟩ : ∃ m, l.length = m := ⟨_, rfl⟩
    rw [hm] at h1 h4 hmn ⊢
    obtain ⟨f, hf⟩ : ∃ f : Nat → List (List Nat), (fun s => if s ∈ l then [] else outs n d (l ++ [s])) = f := ⟨_, rfl⟩
    have hfi : ∀ s, f s = if s ∈ l then [] else outs n d (l ++ [s]) := fun s => by rw [← hf]
    have ho : outs n (d + 1) l = outR f n n := by rw [← hf]; rfl
    rw [ho]
    simp only [a86, gcap, gB, inV, PT.set, mkB, nmsL, List.cons_append, List.nil_append]
    by_cases hmc : m = c
    case' pos =>
      have hlv : lv m c = .os 1 p40 m := if_pos hmc
      rw [hlv]
      (repeat (first | refine VC.seq ?_ | refine VC.block ?_ | refine VC.kill ?_ | refine VC.skip ?_ | refine VC.exit ?_ | refine VC.regA ?_ | refine VC.condT ?_ | refine VC.condF ?_))
    case' neg =>
      have hlv : lv m c = .ob 1 p40 0 m c := if_neg hmc
      rw [hlv]
      (repeat (first | refine VC.seq ?_ | refine VC.block ?_ | refine VC.kill ?_ | refine VC.skip ?_ | refine VC.exit ?_ | refine VC.regA ?_ | refine VC.condT ?_ | refine VC.condF ?_))
    all_goals
      refine VC.loopG (fun (q : Nat × Nat × List Int) => ⟨inV [p0, p3, p13, p14] [.op 0 p3 0, .op 0 p4 0, vi n, vi q.1] .lf, mkB [(p3, .cells [lv m q.2.1]), (p2, .cells [.yl kk]), (p4, .cells [.clos 86 [] (gcap n)]), (p40, .cells (q.2.2.map vi))] .lf, [p3, p2, p4], some ⟨kk, itms (outR f n (n - q.1)) ++ rest, true, false⟩⟩)
        (fun k q => k = n - q.1 ∧ q.1 ≤ n ∧ m ≤ q.2.1 ∧ q.2.1 ≤ n ∧ q.2.2.length = q.2.1 ∧ q.2.2.take m = natI l) (x := (0, c, A)) ?_ ⟨rfl, Nat.zero_le _, h1, h2, h3, h4⟩ ?_
      · rw [hlv]
        (apply Go.Ab.V.G.weak; constructor <;> simp (config := {decide := true}) only [PT.Le, inV, mkB, PT.set, VSt.kill, VSt.adopt, VSt.alloc, PT.filt, PT.map, List.map_cons, List.map_nil, noref, norefB, deadB, deadV, nos, nm, nmL, nmB, nmE, Pa.eqb, cond_true, cond_false, Bool.not_true, Bool.not_false, Bool.and_true, Bool.true_and, nmL_vi, flV_len, flP_len, flV_nm, flV_ok, flV_pv, flP_map, drop_flP, drop_flV, putC_flV, eqV2, eqV3, bneT, bneF, decide_true, decide_false, frzL_vi, frzL_flV, nmE_ag, nmE_at, frzE_ag, frzE_at, ofAg_len, ofAt_len, atL_vi, nmL_map_p, frzL_map_p, okL_p, toPVs_p, repsZ, nmL_reps, putC_vi, get_flV0, get_flV1, Int.toNat_zero, Int.toNat_one, Int.reduceToNat, eqV_slice, eqV_ptr, eqV_func, nilS, nilP, nilF, nmL_append, true_or, or_true, and_self, true_and, and_true, Option.some.injEq, reduceCtorEq, false_or, or_false, VV.p.injEq, PV.at.injEq, Value.int.injEq, sl1, vi, bl1, vb, nilV, gcap, pi])
        (all_goals first | rfl | omega | exact ⟨rfl, by omega⟩)
      rintro k0 ⟨i, c', A'⟩ ⟨hk0, hi, g1, g2, g3, g4⟩
      simp only at hk0 hi g1 g2 g3 g4
      clear hlv hmc h1 h2 h3 h4 A c
      simp only [inV, PT.set, mkB, gcap, pi]
      (repeat (first | refine VC.seq ?_ | refine VC.block ?_ | refine VC.kill ?_ | refine VC.skip ?_ | refine VC.exit ?_ | refine VC.regA ?_ | refine VC.condT ?_ | refine VC.condF ?_))
      refine VC.condA ?_ ?_ <;> intro h' <;> (simp only [decide_eq_true_eq, decide_eq_false_iff_not, bne_iff_ne, ne_eq, bne_eq_false_iff_eq, beq_iff_eq, beq_eq_false_iff_ne, Bool.not_eq_true', Bool.not_eq_false', Bool.and_eq_true, Bool.or_eq_true, Int.natCast_inj] at h')
      · have h' : i < n := by omega
        obtain ⟨r, hr⟩ : ∃ r, n - i = r + 1 := ⟨n - i - 1, by omega⟩
        have hr2 : n - (i + 1) = r := by omega
        have hr3 : n - (r + 1) = i := by omega
        have hH : outR f n (n - i) = f i ++ outR f n r := by rw [hr]; show f (n - (r + 1)) ++ _ = _; rw [hr3]
        rw [hH]
        have kc := Contains_ok (natI l) i (by rw [natI_len]; omega)
        have hmem : decide ((i : Int) ∈ natI l) = decide (i ∈ l) := by
          rw [decide_eq_decide]
          unfold natI
          rw [List.mem_map]
          exact ⟨fun ⟨a, ha, e⟩ => by have e : a = i := by omega
                                      rw [← e]; exact ha, fun h => ⟨i, h, rfl⟩⟩
        rw [hmem] at kc
        have hbor : borL [(p40, A'.map pi)] [lv m c', vi i] = [sl1 (natI l), vi i] := by
          have e : lv m c' = .os 1 p40 m ∧ m = c' ∨ lv m c' = .ob 1 p40 0 m c' := by
            unfold lv
            split
            · exact .inl ⟨rfl, by assumption⟩
            · exact .inr rfl
          have hz : (natI l).length = m := by rw [natI_len]; exact hm
          rcases e with ⟨e, e2⟩ | e
          · have : A' = natI l := by rw [← g4, List.take_of_length_le (by omega)]
            rw [e, this, sl1, hz]
            rfl
          · rw [e, ← g4, sl1, List.length_take, Nat.min_eq_left (by omega), List.map_take]
            have hb : Nat.ble (0 + m) (A'.map pi).length = true := by rw [List.length_map, Nat.ble_eq]; omega
            simp only [borL, borV, frzV, hb, Pa.eqb, Bool.and_true, cond_true, List.drop_zero, Nat.mul_one, vi]
        (repeat (first | refine VC.seq ?_ | refine VC.block ?_ | refine VC.kill ?_ | refine VC.skip ?_ | refine VC.exit ?_ | refine VC.regA ?_ | refine VC.condT ?_ | refine VC.condF ?_))
        refine VC.regCA ?_
        refine VO.moreA ?_
        refine VO.call [(p40, A'.map pi)] [] (mkB [(p3, .cells [lv m c']), (p2, .cells [.yl kk]), (p4, .cells [.clos 86 [] [.op 0 p3 0, .p (.fp 0 [.at (.int .i64 n)]), .op 0 p2 0, .op 0 p4 0]]), (p40, .cells (A'.map vi))] .lf) (y := vb (decide (i ∈ l))) (N := []) (B' := []) rfl rfl (no_orc 87 (by decide)) ?_ ⟨⟨_, rfl, toPVs_vi _⟩, trivial⟩ ?_ ?_ rfl rfl rfl rfl rfl rfl rfl ?_
        · show VCall cfg 87 (borL [(p40, A'.map pi)] [lv m c', vi i]) [] [] _ []
          rw [hbor]; exact kc
        · trivial
        · simp [mkB, PT.set, PT.Le]
        (simp only [filtN, filtNB, mkB, PT.set, VSt.put, PT.filt, noref, norefB, nos, nm, nmL, nmB, nmL_vi, nmL_map_p, nmE_ag, flV_nm, List.nil_append, List.append_nil, Pa.eqb, cond_true, cond_false, Bool.and_true, Bool.not_false, Bool.not_true])
        refine VO.endA ?_
        (repeat (first | refine VC.seq ?_ | refine VC.block ?_ | refine VC.kill ?_ | refine VC.skip ?_ | refine VC.exit ?_ | refine VC.regA ?_ | refine VC.condT ?_ | refine VC.condF ?_))
        clear hbor kc hmem
        refine VC.condA ?_ ?_ <;> intro hs <;> (simp only [decide_eq_true_eq, decide_eq_false_iff_not, bne_iff_ne, ne_eq, bne_eq_false_iff_eq, beq_iff_eq, beq_eq_false_iff_ne, Bool.not_eq_true', Bool.not_eq_false', Bool.and_eq_true, Bool.or_eq_true, Int.natCast_inj] at hs)
        · rw [hfi, if_pos hs, List.nil_append]
          (repeat (first | refine VC.seq ?_ | refine VC.block ?_ | refine VC.kill ?_ | refine VC.skip ?_ | refine VC.exit ?_ | refine VC.regA ?_ | refine VC.condT ?_ | refine VC.condF ?_))
          refine ⟨_, (i + 1, c', A'), ?_, ⟨rfl, by simp only; omega, g1, g2, g3, g4⟩, ?_⟩
          · simp only; omega
          · rw [← hr2]
            (apply Go.Ab.V.G.weak; constructor <;> simp (config := {decide := true}) only [PT.Le, inV, mkB, PT.set, VSt.kill, VSt.adopt, VSt.alloc, PT.filt, PT.map, List.map_cons, List.map_nil, noref, norefB, deadB, deadV, nos, nm, nmL, nmB, nmE, Pa.eqb, cond_true, cond_false, Bool.not_true, Bool.not_false, Bool.and_true, Bool.true_and, nmL_vi, flV_len, flP_len, flV_nm, flV_ok, flV_pv, flP_map, drop_flP, drop_flV, putC_flV, eqV2, eqV3, bneT, bneF, decide_true, decide_false, frzL_vi, frzL_flV, nmE_ag, nmE_at, frzE_ag, frzE_at, ofAg_len, ofAt_len, atL_vi, nmL_map_p, frzL_map_p, okL_p, toPVs_p, repsZ, nmL_reps, putC_vi, get_flV0, get_flV1, Int.toNat_zero, Int.toNat_one, Int.reduceToNat, eqV_slice, eqV_ptr, eqV_func, nilS, nilP, nilF, nmL_append, true_or, or_true, and_self, true_and, and_true, Option.some.injEq, reduceCtorEq, false_or, or_false, VV.p.injEq, PV.at.injEq, Value.int.injEq, sl1, vi, bl1, vb, nilV, gcap, pi])
            (all_goals first | rfl | omega | exact ⟨rfl, by omega⟩)
        · have hH2 : itms (f i ++ outR f n r) ++ rest = itms (outs n d (l ++ [i])) ++ (itms (outR f n r) ++ rest) := by
            rw [hfi, if_neg hs, itms_app, List.append_assoc]
          rw [hH2]
          have hl1 : (l ++ [i]).length = m + 1 := by rw [List.length_append, hm]; rfl
          have ih := ih (itms (outR f n r) ++ rest) (l ++ [i])
          rw [hl1] at ih
          have hni : natI (l ++ [i]) = natI l ++ [(i : Int)] := by simp [natI]
          have hnl : (natI l).length = m := by rw [natI_len]; exact hm
          by_cases hmc : m = c'
          case' pos =>
            have hA : A' = natI l := by rw [← g4, List.take_of_length_le (by omega)]
            have e : lv m c' = .os 1 p40 m := if_pos hmc
            subst hmc
            rw [e]
            (repeat (first | refine VC.seq ?_ | refine VC.block ?_ | refine VC.kill ?_ | refine VC.skip ?_ | refine VC.exit ?_ | refine VC.regA ?_ | refine VC.condT ?_ | refine VC.condF ?_))
            refine VC.exG (fun q : Nat × List Int => ⟨inV [p0, p3, p13, p14] [.op 0 p3 0, .op 0 p4 0, vi n, vi i] .lf, mkB (gB kk (m + 1) q.1 n ++ [(p40, .cells (q.2.map vi))]) .lf, [p3, p2, p4], some ⟨kk, itms (outs n d (l ++ [i])) ++ (itms (outR f n r) ++ rest), true, false⟩⟩) (fun q => m + 1 ≤ q.1 ∧ q.1 ≤ n ∧ q.2.length = q.1 ∧ q.2.take (m + 1) = natI (l ++ [i])) ⟨(m + 1, natI l ++ [(i : Int)]), ⟨Nat.le_refl _, by simp only; omega, by simp [hnl], by rw [hni, List.take_of_length_le (by simp [hnl])]⟩, ?_⟩ ?_
            · rw [hA]
              have e2 : lv (m + 1) (m + 1) = .os 1 p40 (m + 1) := if_pos rfl
              simp only [gB, e2]
              (apply Go.Ab.V.G.weak; constructor <;> simp (config := {decide := true}) only [PT.Le, inV, mkB, PT.set, VSt.kill, VSt.adopt, VSt.alloc, PT.filt, PT.map, List.map_cons, List.map_nil, noref, norefB, deadB, deadV, nos, nm, nmL, nmB, nmE, Pa.eqb, cond_true, cond_false, Bool.not_true, Bool.not_false, Bool.and_true, Bool.true_and, nmL_vi, flV_len, flP_len, flV_nm, flV_ok, flV_pv, flP_map, drop_flP, drop_flV, putC_flV, eqV2, eqV3, bneT, bneF, decide_true, decide_false, frzL_vi, frzL_flV, nmE_ag, nmE_at, frzE_ag, frzE_at, ofAg_len, ofAt_len, atL_vi, nmL_map_p, frzL_map_p, okL_p, toPVs_p, repsZ, nmL_reps, putC_vi, get_flV0, get_flV1, Int.toNat_zero, Int.toNat_one, Int.reduceToNat, eqV_slice, eqV_ptr, eqV_func, nilS, nilP, nilF, nmL_append, true_or, or_true, and_self, true_and, and_true, Option.some.injEq, reduceCtorEq, false_or, or_false, VV.p.injEq, PV.at.injEq, Value.int.injEq, sl1, vi, bl1, vb, nilV, gcap, pi, List.cons_append, List.nil_append, List.map_append, vi])
              (all_goals first | rfl | omega | exact ⟨rfl, by omega⟩)
          case' neg =>
            have e : lv m c' = .ob 1 p40 0 m c' := if_neg hmc
            rw [e]
            (repeat (first | refine VC.seq ?_ | refine VC.block ?_ | refine VC.kill ?_ | refine VC.skip ?_ | refine VC.exit ?_ | refine VC.regA ?_ | refine VC.condT ?_ | refine VC.condF ?_))
            refine VC.exG (fun q : Nat × List Int => ⟨inV [p0, p3, p13, p14] [.op 0 p3 0, .op 0 p4 0, vi n, vi i] .lf, mkB (gB kk (m + 1) q.1 n ++ [(p40, .cells (q.2.map vi))]) .lf, [p3, p2, p4], some ⟨kk, itms (outs n d (l ++ [i])) ++ (itms (outR f n r) ++ rest), true, false⟩⟩) (fun q => m + 1 ≤ q.1 ∧ q.1 ≤ n ∧ q.2.length = q.1 ∧ q.2.take (m + 1) = natI (l ++ [i])) ⟨(c', A'.set m i), ⟨by simp only; omega, g2, by simp only [List.length_set]; exact g3, by rw [hni, ← g4]; exact take_set_succ _ _ _ (by omega)⟩, ?_⟩ ?_
            · by_cases hc1 : m + 1 = c'
              · subst hc1
                have e2 : lv (m + 1) (m + 1) = .os 1 p40 (m + 1) := if_pos rfl
                simp only [gB, e2]
                refine (G.obos (p := p3) (i := 0) (u := 1) (a := p40) (n := m + 1) (cs := [.ob 1 p40 0 (m + 1) (m + 1)]) rfl rfl).trans ?_
                simp only [VSt.obos, List.set_cons_zero]
                (apply Go.Ab.V.G.weak; constructor <;> simp (config := {decide := true}) only [PT.Le, inV, mkB, PT.set, VSt.kill, VSt.adopt, VSt.alloc, PT.filt, PT.map, List.map_cons, List.map_nil, noref, norefB, deadB, deadV, nos, nm, nmL, nmB, nmE, Pa.eqb, cond_true, cond_false, Bool.not_true, Bool.not_false, Bool.and_true, Bool.true_and, nmL_vi, flV_len, flP_len, flV_nm, flV_ok, flV_pv, flP_map, drop_flP, drop_flV, putC_flV, eqV2, eqV3, bneT, bneF, decide_true, decide_false, frzL_vi, frzL_flV, nmE_ag, nmE_at, frzE_ag, frzE_at, ofAg_len, ofAt_len, atL_vi, nmL_map_p, frzL_map_p, okL_p, toPVs_p, repsZ, nmL_reps, putC_vi, get_flV0, get_flV1, Int.toNat_zero, Int.toNat_one, Int.reduceToNat, eqV_slice, eqV_ptr, eqV_func, nilS, nilP, nilF, nmL_append, true_or, or_true, and_self, true_and, and_true, Option.some.injEq, reduceCtorEq, false_or, or_false, VV.p.injEq, PV.at.injEq, Value.int.injEq, sl1, vi, bl1, vb, nilV, gcap, pi, List.cons_append, List.nil_append, List.map_append, vi])
                (all_goals first | rfl | omega | exact ⟨rfl, by omega⟩)
              · have e : lv (m + 1) c' = .ob 1 p40 0 (m + 1) c' := if_neg hc1
                simp only [gB, e]
                (apply Go.Ab.V.G.weak; constructor <;> simp (config := {decide := true}) only [PT.Le, inV, mkB, PT.set, VSt.kill, VSt.adopt, VSt.alloc, PT.filt, PT.map, List.map_cons, List.map_nil, noref, norefB, deadB, deadV, nos, nm, nmL, nmB, nmE, Pa.eqb, cond_true, cond_false, Bool.not_true, Bool.not_false, Bool.and_true, Bool.true_and, nmL_vi, flV_len, flP_len, flV_nm, flV_ok, flV_pv, flP_map, drop_flP, drop_flV, putC_flV, eqV2, eqV3, bneT, bneF, decide_true, decide_false, frzL_vi, frzL_flV, nmE_ag, nmE_at, frzE_ag, frzE_at, ofAg_len, ofAt_len, atL_vi, nmL_map_p, frzL_map_p, okL_p, toPVs_p, repsZ, nmL_reps, putC_vi, get_flV0, get_flV1, Int.toNat_zero, Int.toNat_one, Int.reduceToNat, eqV_slice, eqV_ptr, eqV_func, nilS, nilP, nilF, nmL_append, true_or, or_true, and_self, true_and, and_true, Option.some.injEq, reduceCtorEq, false_or, or_false, VV.p.injEq, PV.at.injEq, Value.int.injEq, sl1, vi, bl1, vb, nilV, gcap, pi, List.cons_append, List.nil_append, List.map_append, vi])
                (all_goals first | rfl | omega | exact ⟨rfl, by omega⟩)
          all_goals
            rintro ⟨c2, A2⟩ ⟨q1, q2, q3, q4⟩
            simp only at q1 q2 q3 q4
            clear g1 g2 g3 g4
            simp only [gB, gcap, inV, PT.set, mkB, List.cons_append, List.nil_append]
            (repeat (first | refine VC.seq ?_ | refine VC.block ?_ | refine VC.kill ?_ | refine VC.skip ?_ | refine VC.exit ?_ | refine VC.regA ?_ | refine VC.condT ?_ | refine VC.condF ?_))
            refine VC.regCA ?_
            refine VO.moreA ?_
            refine VO.ycall (gB kk (m + 1) c2 n) [(p40, .cells (A2.map vi))] (inV [p0, p3, p13, p14] [.op 0 p3 0, .op 0 p4 0, vi n, vi i] .lf) rfl rfl (no_orc 86 (by decide)) (ih c2 A2 (by omega) q1 q2 q3 q4) rfl ?_ ?_ ?_ rfl rfl ?_
            · exact PT.Le.refl _
            · simp [inV, PT.set, PT.Le, vi]
            · simp [inV, PT.set, NmOk, nm, nmsL, gB, vi]
            rintro y B' rest' live (⟨rfl, rfl, rfl, c3, A3, t1, t2, t3, t4, rfl⟩ | ⟨rfl, rfl, rfl⟩)
            · simp only [gB, gcap, pi, inV, PT.set, mkB, VSt.put, List.cons_append, List.nil_append]
              refine VO.endA ?_
              (repeat (first | refine VC.seq ?_ | refine VC.block ?_ | refine VC.kill ?_ | refine VC.skip ?_ | refine VC.exit ?_ | refine VC.regA ?_ | refine VC.condT ?_ | refine VC.condF ?_))
              have hsub : ((m + 1 : Nat) : Int) - 1 = (m : Int) := by omega
              have t5 : A3.take m = natI l := by
                have : A3.take m = (A3.take (m + 1)).take m := by rw [List.take_take, Nat.min_eq_left (by omega)]
                rw [this, t4, hni, List.take_append_of_le_length (by omega), List.take_of_length_le (by omega)]
              have e4 : lv m c3 = .ob 1 p40 0 m c3 := if_neg (by omega)
              by_cases hc3 : m + 1 = c3
              case' pos =>
                have e3 : lv (m + 1) c3 = .os 1 p40 (m + 1) := if_pos hc3
                rw [e3]
                have e4 : lv m c3 = .ob 1 p40 0 m (m + 1) := by rw [e4, hc3]
                (repeat (first | refine VC.seq ?_ | refine VC.block ?_ | refine VC.kill ?_ | refine VC.skip ?_ | refine VC.exit ?_ | refine VC.regA ?_ | refine VC.condT ?_ | refine VC.condF ?_))
                ((try (apply VC.regU; · ((simp (config := {decide := false, maxSteps := 1000000}) (disch := omega) only [vev_call, putC_c0, putC_n0, putC_cs, ble0, List.getElem?_cons_zero, List.getElem?_cons_succ, runU, isCall, wantV, vev, evV, ofVal, ofAtom, atomB, cond_true, cond_false, PT.get, PT.set, PT.filt, PT.map, Option.getD_some, Option.getD_none, ret1V, ret1X, v_ld, v_ias, v_iad, v_fad, v_slsl, v_slarr, v_st, v_app, v_cpy, v_clr, v_len, v_look, v_mset, elsV, partV, newV, free, atV, atI, atL, toVal, cellsV, okV, VSt.put, VSt.kill, VSt.alloc, VSt.frz, VSt.adopt, noref, norefB, deadB, deadV, nos, nm, nmL, nmB, nmE, Pa.eqb, Bool.not_false, Bool.not_true, Bool.and_true, Bool.true_and, Bool.false_and, Bool.and_false, bin, intOps, intBin, cvt, un, goInt, bndsV, bndV, Option.map_some, Option.map_none, List.map_cons, List.map_nil, Int.toNat_natCast, Nat.mul_one, Nat.zero_add, beq_true, beq_false, beq_self_eq_true, List.length_map, List.length_cons, List.length_nil, List.length_append, fillV, pEvV, repsV, List.append_nil, List.nil_append, if_pos, if_neg, reduceIte, List.getElem?_map, List.getElem?_drop, Nat.add_zero, List.getElem?_eq_getElem, Go.IntWalk.i64_in, wrap_u64, tmod_pos, eq_self, true_and, and_true, and_self, List.all_cons, List.all_nil, nmL_vi, flV_len, flP_len, flV_nm, flV_ok, flV_pv, flP_map, drop_flP, drop_flV, putC_flV, eqV2, eqV3, bneT, bneF, decide_true, decide_false, frzL_vi, frzL_flV, nmE_ag, nmE_at, frzE_ag, frzE_at, ofAg_len, ofAt_len, atL_vi, nmL_map_p, frzL_map_p, okL_p, toPVs_p, repsZ, nmL_reps, putC_vi, get_flV0, get_flV1, Int.toNat_zero, Int.toNat_one, Int.reduceToNat, eqV_slice, eqV_ptr, eqV_func, nilS, nilP, nilF, nmL_append, okL_vi, toPVs_vi, toPVs, toPV, frzV, frzL, frzB, resVV, vi, vb, nilV, sl1, bl1, pi, foldV, max2, min2, max_eq, min_eq, Int.tdiv_eq_ediv_of_nonneg, Int.cast_ofNat_Int, Option.isSome_none, Option.isSome_some, Option.isNone_none, Option.isNone_some, and_false, false_and, sl2, sl1P, slP, min_cast, take_map_pi, map_pi, Nat.sub_zero, Nat.zero_mul, List.length_take, decide_eq_true, decide_eq_false, Bool.true_eq_false, Bool.false_eq_true, beqT, beqF, ibeq, ibne, List.take_zero, List.take_succ_cons, List.drop_zero, List.drop_succ_cons, List.drop_nil, List.take_nil, List.cons_append, Bool.not_true, Bool.not_false, hsub]); rfl))); (repeat (first | refine VC.seq ?_ | refine VC.block ?_ | refine VC.kill ?_ | refine VC.skip ?_ | refine VC.exit ?_ | refine VC.regA ?_ | refine VC.condT ?_ | refine VC.condF ?_)))
              case' neg =>
                have e3 : lv (m + 1) c3 = .ob 1 p40 0 (m + 1) c3 := if_neg hc3
                rw [e3]
                (repeat (first | refine VC.seq ?_ | refine VC.block ?_ | refine VC.kill ?_ | refine VC.skip ?_ | refine VC.exit ?_ | refine VC.regA ?_ | refine VC.condT ?_ | refine VC.condF ?_))
                ((try (apply VC.regU; · ((simp (config := {decide := false, maxSteps := 1000000}) (disch := omega) only [vev_call, putC_c0, putC_n0, putC_cs, ble0, List.getElem?_cons_zero, List.getElem?_cons_succ, runU, isCall, wantV, vev, evV, ofVal, ofAtom, atomB, cond_true, cond_false, PT.get, PT.set, PT.filt, PT.map, Option.getD_some, Option.getD_none, ret1V, ret1X, v_ld, v_ias, v_iad, v_fad, v_slsl, v_slarr, v_st, v_app, v_cpy, v_clr, v_len, v_look, v_mset, elsV, partV, newV, free, atV, atI, atL, toVal, cellsV, okV, VSt.put, VSt.kill, VSt.alloc, VSt.frz, VSt.adopt, noref, norefB, deadB, deadV, nos, nm, nmL, nmB, nmE, Pa.eqb, Bool.not_false, Bool.not_true, Bool.and_true, Bool.true_and, Bool.false_and, Bool.and_false, bin, intOps, intBin, cvt, un, goInt, bndsV, bndV, Option.map_some, Option.map_none, List.map_cons, List.map_nil, Int.toNat_natCast, Nat.mul_one, Nat.zero_add, beq_true, beq_false, beq_self_eq_true, List.length_map, List.length_cons, List.length_nil, List.length_append, fillV, pEvV, repsV, List.append_nil, List.nil_append, if_pos, if_neg, reduceIte, List.getElem?_map, List.getElem?_drop, Nat.add_zero, List.getElem?_eq_getElem, Go.IntWalk.i64_in, wrap_u64, tmod_pos, eq_self, true_and, and_true, and_self, List.all_cons, List.all_nil, nmL_vi, flV_len, flP_len, flV_nm, flV_ok, flV_pv, flP_map, drop_flP, drop_flV, putC_flV, eqV2, eqV3, bneT, bneF, decide_true, decide_false, frzL_vi, frzL_flV, nmE_ag, nmE_at, frzE_ag, frzE_at, ofAg_len, ofAt_len, atL_vi, nmL_map_p, frzL_map_p, okL_p, toPVs_p, repsZ, nmL_reps, putC_vi, get_flV0, get_flV1, Int.toNat_zero, Int.toNat_one, Int.reduceToNat, eqV_slice, eqV_ptr, eqV_func, nilS, nilP, nilF, nmL_append, okL_vi, toPVs_vi, toPVs, toPV, frzV, frzL, frzB, resVV, vi, vb, nilV, sl1, bl1, pi, foldV, max2, min2, max_eq, min_eq, Int.tdiv_eq_ediv_of_nonneg, Int.cast_ofNat_Int, Option.isSome_none, Option.isSome_some, Option.isNone_none, Option.isNone_some, and_false, false_and, sl2, sl1P, slP, min_cast, take_map_pi, map_pi, Nat.sub_zero, Nat.zero_mul, List.length_take, decide_eq_true, decide_eq_false, Bool.true_eq_false, Bool.false_eq_true, beqT, beqF, ibeq, ibne, List.take_zero, List.take_succ_cons, List.drop_zero, List.drop_succ_cons, List.drop_nil, List.take_nil, List.cons_append, Bool.not_true, Bool.not_false, hsub]); rfl))); (repeat (first | refine VC.seq ?_ | refine VC.block ?_ | refine VC.kill ?_ | refine VC.skip ?_ | refine VC.exit ?_ | refine VC.regA ?_ | refine VC.condT ?_ | refine VC.condF ?_)))
              all_goals
                try simp only [hsub, Int.toNat_natCast]
                refine ⟨_, (i + 1, c3, A3), ?_, ⟨rfl, by simp only; omega, by simp only; omega, t2, t3, t5⟩, ?_⟩
                · simp only; omega
                · rw [← hr2]
                  simp only [e4]
                  (apply Go.Ab.V.G.weak; constructor <;> simp (config := {decide := true}) only [PT.Le, inV, mkB, PT.set, VSt.kill, VSt.adopt, VSt.alloc, PT.filt, PT.map, List.map_cons, List.map_nil, noref, norefB, deadB, deadV, nos, nm, nmL, nmB, nmE, Pa.eqb, cond_true, cond_false, Bool.not_true, Bool.not_false, Bool.and_true, Bool.true_and, nmL_vi, flV_len, flP_len, flV_nm, flV_ok, flV_pv, flP_map, drop_flP, drop_flV, putC_flV, eqV2, eqV3, bneT, bneF, decide_true, decide_false, frzL_vi, frzL_flV, nmE_ag, nmE_at, frzE_ag, frzE_at, ofAg_len, ofAt_len, atL_vi, nmL_map_p, frzL_map_p, okL_p, toPVs_p, repsZ, nmL_reps, putC_vi, get_flV0, get_flV1, Int.toNat_zero, Int.toNat_one, Int.reduceToNat, eqV_slice, eqV_ptr, eqV_func, nilS, nilP, nilF, nmL_append, true_or, or_true, and_self, true_and, and_true, Option.some.injEq, reduceCtorEq, false_or, or_false, VV.p.injEq, PV.at.injEq, Value.int.injEq, sl1, vi, bl1, vb, nilV, gcap, pi, vi])
                  (all_goals first | rfl | omega | exact ⟨rfl, by omega⟩)
            · simp only [inV, PT.set, mkB, VSt.put]
              refine VO.endA ?_
              (repeat (first | refine VC.seq ?_ | refine VC.block ?_ | refine VC.kill ?_ | refine VC.skip ?_ | refine VC.exit ?_ | refine VC.regA ?_ | refine VC.condT ?_ | refine VC.condF ?_))
              exact VC.ret ⟨_, _, [], rest', false, G.refl, rfl, rfl, .inr ⟨rfl, rfl, rfl⟩, trivial, rfl, rfl⟩
      · have hin : n - i = 0 := by omega
        clear h'
        rw [hin]
        (repeat (first | refine VC.seq ?_ | refine VC.block ?_ | refine VC.kill ?_ | refine VC.skip ?_ | refine VC.exit ?_ | refine VC.regA ?_ | refine VC.condT ?_ | refine VC.condF ?_))
        refine VC.ret ⟨_, _, gB kk m c' n ++ [(p40, .cells (A'.map vi))], rest, true, G.refl, rfl, rfl, .inl ⟨rfl, rfl, rfl, c', A', g1, g2, g3, g4, rfl⟩, ?_, rfl, rfl⟩
        simp [gB, gcap, mkB, PT.set, PT.Le, pi]
theorem grow_ok (kk n : Nat) (hn : n ≤ 7) : ∀ d, GrowAt kk n d
  | 0 => grow_0 kk n
  | d + 1 => grow_s kk n d hn (grow_ok kk n hn d)
set_option maxHeartbeats 4000000 in
theorem orders1_ok (n : Nat) (hn : n ≤ 7) : VIter cfg 85 [] [.p (.fp 0 [pi n])] false (itms (outs n n [])) := by
  refine VIter.mk (fn := a85) rfl rfl rfl fun kk => ?_
  have ih := grow_ok kk n hn n [] [] 0 [] (by simp) (Nat.le_refl _) (Nat.zero_le _) rfl rfl
  rw [List.append_nil] at ih
  simp only [a85, inV, PT.set, List.nil_append, List.cons_append]
  (repeat (first | refine VC.seq ?_ | refine VC.block ?_ | refine VC.kill ?_ | refine VC.skip ?_ | refine VC.exit ?_ | refine VC.regA ?_ | refine VC.condT ?_ | refine VC.condF ?_))
  refine VC.ghost (S' := ⟨inV [p4] [.op 0 p4 0] .lf, mkB (gB kk 0 0 n ++ [(p40, .cells (([] : List Int).map vi))]) .lf, [], some ⟨kk, itms (outs n n []), true, false⟩⟩) ?_ ?_
  · refine G.adoptBA (p := p3) (cs := [.p (.at (.slice none 0 0))]) 0 1 p40 ?_
    have e2 : lv 0 0 = .os 1 p40 0 := if_pos rfl
    simp only [gB, e2, gcap, pi, VSt.adoptB, List.set_cons_zero]
    (apply Go.Ab.V.G.weak; constructor <;> simp (config := {decide := true}) only [PT.Le, inV, mkB, PT.set, VSt.kill, VSt.adopt, VSt.alloc, PT.filt, PT.map, List.map_cons, List.map_nil, noref, norefB, deadB, deadV, nos, nm, nmL, nmB, nmE, Pa.eqb, cond_true, cond_false, Bool.not_true, Bool.not_false, Bool.and_true, Bool.true_and, nmL_vi, flV_len, flP_len, flV_nm, flV_ok, flV_pv, flP_map, drop_flP, drop_flV, putC_flV, eqV2, eqV3, bneT, bneF, decide_true, decide_false, frzL_vi, frzL_flV, nmE_ag, nmE_at, frzE_ag, frzE_at, ofAg_len, ofAt_len, atL_vi, nmL_map_p, frzL_map_p, okL_p, toPVs_p, repsZ, nmL_reps, putC_vi, get_flV0, get_flV1, Int.toNat_zero, Int.toNat_one, Int.reduceToNat, eqV_slice, eqV_ptr, eqV_func, nilS, nilP, nilF, nmL_append, true_or, or_true, and_self, true_and, and_true, Option.some.injEq, reduceCtorEq, false_or, or_false, VV.p.injEq, PV.at.injEq, Value.int.injEq, sl1, vi, bl1, vb, nilV, List.cons_append, List.nil_append])
    (all_goals first | rfl | omega | exact ⟨rfl, by omega⟩)
  simp only [gB, gcap, pi, inV, PT.set, mkB, List.cons_append, List.nil_append]
  refine VC.regCA ?_
  refine VO.moreA ?_
  refine VO.ycall (gB kk 0 0 n) [(p40, .cells (([] : List Int).map vi))] .lf rfl rfl (no_orc 86 (by decide)) ih rfl ?_ trivial trivial rfl rfl ?_
  · exact PT.Le.refl _
  rintro y B' rest' live (⟨rfl, rfl, rfl, c3, A3, t1, t2, t3, t4, rfl⟩ | ⟨rfl, rfl, rfl⟩)
  · simp only [gB, gcap, pi, inV, PT.set, mkB, VSt.put, List.cons_append, List.nil_append]
    refine VO.endA ?_
    (repeat (first | refine VC.seq ?_ | refine VC.block ?_ | refine VC.kill ?_ | refine VC.skip ?_ | refine VC.exit ?_ | refine VC.regA ?_ | refine VC.condT ?_ | refine VC.condF ?_))
    exact ⟨rfl, _, _, rfl, .inr ⟨rfl, trivial⟩⟩
  · simp only [inV, PT.set, mkB, VSt.put]
    refine VO.endA ?_
    (repeat (first | refine VC.seq ?_ | refine VC.block ?_ | refine VC.kill ?_ | refine VC.skip ?_ | refine VC.exit ?_ | refine VC.regA ?_ | refine VC.condT ?_ | refine VC.condF ?_))
    exact ⟨rfl, _, _, rfl, .inl rfl⟩
set_option maxHeartbeats 4000000 in
theorem orders_ok (n : Nat) : VCall cfg 81 [vi n] [] [] (.clos 85 [] [.p (.fp 0 [pi n])]) [] := by
  (refine VCall.mk (fn := a81) rfl rfl rfl ?_; simp only [a81, inV, mkB, nmsL, PT.set])
  (repeat (first | refine VC.seq ?_ | refine VC.block ?_ | refine VC.kill ?_ | refine VC.skip ?_ | refine VC.exit ?_ | refine VC.regA ?_ | refine VC.condT ?_ | refine VC.condF ?_))
  exact VC.ret (Fin.frzA p1 (Fin.A rfl))
end Go.Ab.Dues

namespace Go.Ab.Dues
/-! ### What the list of all orders is -/
theorem outR_mem {f : Nat → List (List Nat)} {n : Nat} {x : List Nat} : ∀ {r : Nat}, r ≤ n → x ∈ outR f n r → ∃ s, s < n ∧ x ∈ f s
  | 0, _, h => by cases h
  | r + 1, hr, h => by
    rcases List.mem_append.1 h with h | h
    · exact ⟨n - (r + 1), by omega, h⟩
    · exact outR_mem (by omega) h
theorem outs_mem {n : Nat} : ∀ {d : Nat} {l x : List Nat}, (∀ s ∈ l, s < n) → x ∈ outs n d l → x.length = l.length + d ∧ ∀ s ∈ x, s < n
  | 0, l, x, hl, h => by
    rw [show outs n 0 l = [l] from rfl, List.mem_singleton] at h
    subst h; exact ⟨rfl, hl⟩
  | d + 1, l, x, hl, h => by
    obtain ⟨s, hs, h⟩ := outR_mem (Nat.le_refl n) h
    split at h
    · cases h
    · have := outs_mem (l := l ++ [s]) (fun t ht => by
        rcases List.mem_append.1 ht with ht | ht
        · exact hl t ht
        · rw [List.mem_singleton] at ht; omega) h
      rw [List.length_append, List.length_singleton] at this
      exact ⟨by omega, this.2⟩
theorem outR_len {f : Nat → List (List Nat)} {n b : Nat} (hf : ∀ s, (f s).length ≤ b) : ∀ r, (outR f n r).length ≤ r * b
  | 0 => Nat.zero_le _
  | r + 1 => by
    have := outR_len (n := n) hf r
    have := hf (n - (r + 1))
    rw [show outR f n (r + 1) = f (n - (r + 1)) ++ outR f n r from rfl, List.length_append, Nat.add_mul]
    omega
theorem outs_len (n : Nat) : ∀ (d : Nat) (l : List Nat), (outs n d l).length ≤ n ^ d
  | 0, l => Nat.le_refl _
  | d + 1, l => by
    rw [Nat.pow_succ, Nat.mul_comm]
    refine outR_len (fun s => ?_) n
    split
    · exact Nat.zero_le _
    · exact outs_len n d _
theorem outs_len7 {n : Nat} (h : n ≤ 7) : (outs n n []).length ≤ 823543 :=
  Nat.le_trans (outs_len n n []) (Nat.le_trans (Nat.pow_le_pow_left h n) (Nat.pow_le_pow_right (by decide) h))
theorem outs_pos {n : Nat} (h : n ≤ 7) : 0 < (outs n n []).length := by
  have : n = 0 ∨ n = 1 ∨ n = 2 ∨ n = 3 ∨ n = 4 ∨ n = 5 ∨ n = 6 ∨ n = 7 := by omega
  have key : ∀ {l : List (List Nat)}, l.isEmpty = false → 0 < l.length := by
    intro l hl
    cases l with
    | nil => cases hl
    | cons => simp
  rcases this with rfl | rfl | rfl | rfl | rfl | rfl | rfl | rfl <;> exact key rfl
end Go.Ab.Dues

namespace Go.Ab.Dues
set_option maxRecDepth 1000000
def rIns (l : List Nat) (s : Nat) : List (List Nat) := (List.range (s + 1)).map fun a => l.take a ++ [s] ++ l.drop a
def rOrd : Nat → List (List Nat)
  | 0 => [[]]
  | s + 1 => (rOrd s).flatMap fun l => rIns l s
def codeL (l : List Nat) : Nat := l.foldl (fun a s => a * 8 + s + 1) 0
def decL : Nat → Nat → List Nat → List Nat
  | 0, _, acc => acc
  | f + 1, x, acc => if x = 0 then acc else decL f (x / 8) ((x % 8 - 1) :: acc)
def chkO (n : Nat) : Bool := ((outs n n []).map codeL).isPerm ((rOrd n).map codeL) && ((outs n n []).map fun l => decL 7 (codeL l) []) == outs n n [] && ((rOrd n).map fun l => decL 7 (codeL l) []) == rOrd n
theorem chkO_perm {n : Nat} (h : chkO n = true) : (outs n n []).Perm (rOrd n) := by
  unfold chkO at h
  simp only [Bool.and_eq_true, beq_iff_eq] at h
  obtain ⟨⟨h1, h2⟩, h3⟩ := h
  have := (List.isPerm_iff.1 h1).map fun x => decL 7 x []
  rw [List.map_map, List.map_map] at this
  exact (h2 ▸ h3 ▸ this : _)
theorem chk6 : chkO 6 = true := by decide +kernel
theorem outs_perm {n : Nat} (h : n ≤ 6) : (outs n n []).Perm (rOrd n) := by
  have : n = 0 ∨ n = 1 ∨ n = 2 ∨ n = 3 ∨ n = 4 ∨ n = 5 ∨ n = 6 := by omega
  rcases this with rfl | rfl | rfl | rfl | rfl | rfl | rfl
  · exact chkO_perm (by decide +kernel)
  · exact chkO_perm (by decide +kernel)
  · exact chkO_perm (by decide +kernel)
  · exact chkO_perm (by decide +kernel)
  · exact chkO_perm (by decide +kernel)
  · exact chkO_perm (by decide +kernel)
  · exact chkO_perm chk6
end Go.Ab.Dues

namespace Go.Ab.Dues
open Go.Ab.V
set_option maxRecDepth 100000
end Go.Ab.Dues

namespace Go.Ab.Dues
open Go.Ab.V
set_option maxRecDepth 100000
end Go.Ab.Dues

namespace Go.Ab.Dues
open Go.Ab.V
set_option maxRecDepth 100000
/-! ### Plain facts about margins -/
end Go.Ab.Dues

namespace Go.Ab.Dues
open Go.Ab.V
set_option maxRecDepth 100000
/-! ### Averages over all orders -/
def addL (a b : List Int) : List Int := List.zipWith (· + ·) a b
def avS (g : List Nat → List Int) (n : Nat) (L : List (List Nat)) : List Int := L.foldl (fun a l => addL a (g l)) (List.replicate n 0)
def avN (g : List Nat → List Int) (n : Nat) (L : List (List Nat)) : List (Nat × Nat) := (avS g n L).map fun x => nrm x.toNat L.length
theorem avS_len {g : List Nat → List Int} {n : Nat} {L : List (List Nat)} (h : ∀ l ∈ L, (g l).length = n) : (avS g n L).length = n := by
  unfold avS
  have : ∀ (L : List (List Nat)) (a : List Int), (∀ l ∈ L, (g l).length = n) → a.length = n → (L.foldl (fun a l => addL a (g l)) a).length = n := by
    intro L
    induction L with
    | nil => intro a _ ha; exact ha
    | cons l L ih =>
      intro a h ha
      rw [List.foldl_cons]
      refine ih _ (fun x hx => h x (.tail _ hx)) ?_
      unfold addL
      rw [List.length_zipWith, ha, h l (.head _), Nat.min_self]
  exact this L _ h (by simp)
theorem avS_snoc (g : List Nat → List Int) (n : Nat) (L : List (List Nat)) (i : Nat) (h : i < L.length) : avS g n (L.take (i + 1)) = addL (avS g n (L.take i)) (g L[i]) := by
  unfold avS
  rw [List.take_add_one, List.getElem?_eq_getElem h, Option.toList_some, List.foldl_append]
  rfl
theorem avS_bd {g : List Nat → List Int} {n : Nat} {B : Int} : ∀ {L : List (List Nat)}, (∀ l ∈ L, ∀ x ∈ g l, 0 ≤ x ∧ x ≤ B) → ∀ x ∈ avS g n L, 0 ≤ x ∧ x ≤ L.length * B := by
  unfold avS
  have : ∀ (L : List (List Nat)) (a : List Int) (k : Nat), (∀ l ∈ L, ∀ x ∈ g l, 0 ≤ x ∧ x ≤ B) → (∀ x ∈ a, 0 ≤ x ∧ x ≤ k * B) → ∀ x ∈ L.foldl (fun a l => addL a (g l)) a, 0 ≤ x ∧ x ≤ (k + L.length : Nat) * B := by
    intro L
    induction L with
    | nil => intro a k _ ha; exact ha
    | cons l L ih =>
      intro a k h ha
      rw [List.foldl_cons, show k + (l :: L).length = k + 1 + L.length from by simp only [List.length_cons]; omega]
      refine ih _ _ (fun x hx => h x (.tail _ hx)) fun x hx => ?_
      unfold addL at hx
      rw [List.mem_iff_getElem] at hx
      obtain ⟨i, hi, rfl⟩ := hx
      rw [List.getElem_zipWith]
      rw [List.length_zipWith] at hi
      have h1 := ha _ (List.getElem_mem (show i < a.length by omega))
      have h2 := h l (.head _) _ (List.getElem_mem (show i < (g l).length by omega))
      have : ((k + 1 : Nat) : Int) * B = k * B + B := by rw [Int.natCast_add, Int.add_mul]; omega
      omega
  intro L h x hx
  have := this L (List.replicate n 0) 0 h (fun x hx => by rw [List.eq_of_mem_replicate hx]; simp) x hx
  rwa [Nat.zero_add] at this
def addT (a b : List Int) (s : Nat) : List Int := (addL a b).take s ++ a.drop s
theorem addT_len {a b : List Int} (h : a.length = b.length) (s : Nat) : (addT a b s).length = a.length := by
  unfold addT addL
  simp only [List.length_append, List.length_take, List.length_zipWith, List.length_drop]
  omega
theorem addT_get {a b : List Int} (h : a.length = b.length) {s : Nat} (hs : s < a.length) : (addT a b s)[s]? = some a[s] := by
  unfold addT
  have hl : ((addL a b).take s).length = s := by unfold addL; simp only [List.length_take, List.length_zipWith]; omega
  rw [List.getElem?_append_right (by omega), hl, Nat.sub_self, List.getElem?_drop, Nat.add_zero, List.getElem?_eq_getElem hs]
theorem addT_set {a b : List Int} (h : a.length = b.length) {s : Nat} (hs : s < a.length) : (addT a b s).set s (a[s] + b[s]'(by omega)) = addT a b (s + 1) := by
  unfold addT
  have hl : ((addL a b).take s).length = s := by unfold addL; simp only [List.length_take, List.length_zipWith]; omega
  have hl2 : (addL a b).length = a.length := by unfold addL; simp only [List.length_zipWith]; omega
  rw [List.set_append_right _ _ (by omega), hl, Nat.sub_self, List.drop_eq_getElem_cons hs, List.set_cons_zero, List.take_add_one, List.getElem?_eq_getElem (by omega), Option.toList_some, List.append_assoc]
  have : (addL a b)[s]'(by omega) = a[s] + b[s]'(by omega) := by unfold addL; exact List.getElem_zipWith
  rw [this]; rfl
theorem addT_end {a b : List Int} (h : a.length = b.length) : addT a b a.length = addL a b := by
  unfold addT
  rw [List.drop_length, List.append_nil, List.take_of_length_le (by unfold addL; simp only [List.length_zipWith]; omega)]
end Go.Ab.Dues

namespace Go.Ab.Dues
open Go.Ab.V
set_option maxRecDepth 100000
end Go.Ab.Dues

namespace Go.Ab.Dues
open Go.Ab.V
set_option maxRecDepth 100000
/-! ### careenref10.Orders -/
def encP (l : List Nat) : PV := if l = [] then .at (.slice none 0 0) else .sl 1 l.length ((natI l).map pi)
def ordV (L : List (List Nat)) : VV := .p (.sl 1 L.length (L.map encP))
theorem rOrd_mem : ∀ {n : Nat} {l : List Nat}, l ∈ rOrd n → l.length = n ∧ ∀ s ∈ l, s < n
  | 0, l, h => by
    rw [show rOrd 0 = [[]] from rfl, List.mem_singleton] at h
    subst h; exact ⟨rfl, fun s hs => by cases hs⟩
  | n + 1, l, h => by
    rw [show rOrd (n + 1) = (rOrd n).flatMap fun l => rIns l n from rfl, List.mem_flatMap] at h
    obtain ⟨x, hx, h⟩ := h
    obtain ⟨i1, i2⟩ := rOrd_mem hx
    unfold rIns at h
    rw [List.mem_map] at h
    obtain ⟨a, ha, rfl⟩ := h
    rw [List.mem_range] at ha
    refine ⟨by simp only [List.length_append, List.length_take, List.length_drop, List.length_singleton]; omega, fun s hs => ?_⟩
    rw [List.mem_append, List.mem_append, List.mem_singleton] at hs
    rcases hs with (hs | rfl) | hs
    · have := i2 s (List.mem_of_mem_take hs); omega
    · omega
    · have := i2 s (List.mem_of_mem_drop hs); omega
theorem rOrd_len6 {n : Nat} (h : n ≤ 6) : (rOrd n).length ≤ 823543 := by
  rw [← (outs_perm h).length_eq]; exact outs_len7 (by omega)
theorem frzL_app (a : Pa) (cs : List PV) : ∀ l m : List VV, frzL a cs (l ++ m) = frzL a cs l ++ frzL a cs m
  | [], m => rfl
  | x :: l, m => by simp only [List.cons_append, frzL, frzL_app a cs l m]
theorem encP_ne {l : List Nat} {n : Nat} (h : l.length = n + 1) : encP l = .sl 1 (n + 1) ((natI l).map pi) := by
  unfold encP
  rw [if_neg (fun e => by rw [e] at h; simp at h), h]
set_option maxHeartbeats 8000000 in
theorem ROrders_ok (n : Nat) (hn : n ≤ 6) : VCall cfg 69 [vi n] [] [] (ordV (rOrd n)) [] := by
  (refine VCall.mk (fn := a69) rfl rfl rfl ?_; simp only [a69, inV, mkB, nmsL, PT.set])
  (repeat (first | refine VC.seq ?_ | refine VC.block ?_ | refine VC.kill ?_ | refine VC.skip ?_ | refine VC.exit ?_ | refine VC.regA ?_ | refine VC.condT ?_ | refine VC.condF ?_))
  refine VC.frzA p9 ?_
  simp only [VSt.frz, PT.map, frzL, frzV, frzB, Option.map_some, Option.map_none, PT.set, PT.filt, VSt.kill, Pa.eqb, cond_true, cond_false, Bool.and_true, Bool.and_false, Bool.false_and, Bool.true_and]
  refine VC.loopG (fun (s : Nat) => ⟨inV [p0, p3, p4] [vi n, ordV (rOrd s), vi s] .lf, .lf, [], none⟩) (fun k s => k = n - s ∧ s ≤ n) (x := 0) ?_ ⟨rfl, Nat.zero_le _⟩ ?_
  · (apply Go.Ab.V.G.weak; constructor <;> simp (config := {decide := true}) only [PT.Le, inV, mkB, PT.set, VSt.kill, VSt.adopt, VSt.alloc, PT.filt, PT.map, List.map_cons, List.map_nil, noref, norefB, deadB, deadV, nos, nm, nmL, nmB, nmE, Pa.eqb, cond_true, cond_false, Bool.not_true, Bool.not_false, Bool.and_true, Bool.true_and, nmL_vi, flV_len, flP_len, flV_nm, flV_ok, flV_pv, flP_map, drop_flP, drop_flV, putC_flV, eqV2, eqV3, bneT, bneF, decide_true, decide_false, frzL_vi, frzL_flV, nmE_ag, nmE_at, frzE_ag, frzE_at, ofAg_len, ofAt_len, atL_vi, nmL_map_p, frzL_map_p, okL_p, toPVs_p, repsZ, nmL_reps, putC_vi, get_flV0, get_flV1, Int.toNat_zero, Int.toNat_one, Int.reduceToNat, eqV_slice, eqV_ptr, eqV_func, nilS, nilP, nilF, nmL_append, true_or, or_true, and_self, true_and, and_true, Option.some.injEq, reduceCtorEq, false_or, or_false, VV.p.injEq, PV.at.injEq, Value.int.injEq, sl1, vi, bl1, vb, nilV, ordV, rOrd, encP, vi])
    (all_goals first | rfl | omega | exact ⟨rfl, by omega⟩)
  rintro k s ⟨hk, hs⟩
  simp only [inV, PT.set]
  have hmem := fun l => rOrd_mem (n := s) (l := l)
  have hOl := rOrd_len6 (n := s) (by omega)
  have hnext : rOrd (s + 1) = (rOrd s).flatMap fun l => rIns l s := rfl
  have hend : s = n → rOrd s = rOrd n := fun e => by rw [e]
  generalize rOrd s = O at *
  unfold ordV
  (repeat (first | refine VC.seq ?_ | refine VC.block ?_ | refine VC.kill ?_ | refine VC.skip ?_ | refine VC.exit ?_ | refine VC.regA ?_ | refine VC.condT ?_ | refine VC.condF ?_))
  refine VC.condA ?_ ?_ <;> intro h' <;> (simp only [decide_eq_true_eq, decide_eq_false_iff_not, bne_iff_ne, ne_eq, bne_eq_false_iff_eq, beq_iff_eq, beq_eq_false_iff_ne, Bool.not_eq_true', Bool.not_eq_false', Bool.and_eq_true, Bool.or_eq_true, Int.natCast_inj] at h')
  · have h' : s < n := by omega
    (repeat (first | refine VC.seq ?_ | refine VC.block ?_ | refine VC.kill ?_ | refine VC.skip ?_ | refine VC.exit ?_ | refine VC.regA ?_ | refine VC.condT ?_ | refine VC.condF ?_))
    refine VC.loopG (fun (i : Nat) => ⟨inV [p0, p3, p4, p5, p6] [vi n, .p (.sl 1 O.length (O.map encP)), vi s, .os 1 p48 (((O.take i).flatMap fun l => rIns l s).length), vi i] .lf, mkB [(p48, .cells ((((O.take i).flatMap fun l => rIns l s).map encP).map .p))] .lf, [], none⟩) (fun k i => k = O.length - i ∧ i ≤ O.length) (x := 0) ?_ ⟨rfl, Nat.zero_le _⟩ ?_
    · refine G.adoptA (p := p5) 1 p48 ?_
      (apply Go.Ab.V.G.weak; constructor <;> simp (config := {decide := true}) only [PT.Le, inV, mkB, PT.set, VSt.kill, VSt.adopt, VSt.alloc, PT.filt, PT.map, List.map_cons, List.map_nil, noref, norefB, deadB, deadV, nos, nm, nmL, nmB, nmE, Pa.eqb, cond_true, cond_false, Bool.not_true, Bool.not_false, Bool.and_true, Bool.true_and, nmL_vi, flV_len, flP_len, flV_nm, flV_ok, flV_pv, flP_map, drop_flP, drop_flV, putC_flV, eqV2, eqV3, bneT, bneF, decide_true, decide_false, frzL_vi, frzL_flV, nmE_ag, nmE_at, frzE_ag, frzE_at, ofAg_len, ofAt_len, atL_vi, nmL_map_p, frzL_map_p, okL_p, toPVs_p, repsZ, nmL_reps, putC_vi, get_flV0, get_flV1, Int.toNat_zero, Int.toNat_one, Int.reduceToNat, eqV_slice, eqV_ptr, eqV_func, nilS, nilP, nilF, nmL_append, true_or, or_true, and_self, true_and, and_true, Option.some.injEq, reduceCtorEq, false_or, or_false, VV.p.injEq, PV.at.injEq, Value.int.injEq, sl1, vi, bl1, vb, nilV, vi, List.take_zero, List.flatMap_nil])
      (all_goals first | rfl | omega | exact ⟨rfl, by omega⟩)
    rintro k2 i ⟨hk2, hi⟩
    simp only [inV, PT.set, mkB]
    have hDs : ∀ (h : i < O.length), (O.take (i + 1)).flatMap (fun l => rIns l s) = (O.take i).flatMap (fun l => rIns l s) ++ rIns O[i] s := fun h => by
      rw [List.take_add_one, List.getElem?_eq_getElem h, Option.toList_some, List.flatMap_append]; simp
    have hDe : i = O.length → (O.take i).flatMap (fun l => rIns l s) = rOrd (s + 1) := fun e => by rw [e, List.take_length, hnext]
    have hDl : ((O.take i).flatMap (fun l => rIns l s)).length ≤ 823543 := by
      refine Nat.le_trans ?_ (rOrd_len6 (n := s + 1) (by omega))
      rw [hnext]
      conv => rhs; rw [← List.take_append_drop i O, List.flatMap_append, List.length_append]
      omega
    generalize (O.take i).flatMap (fun l => rIns l s) = D at *
    (repeat (first | refine VC.seq ?_ | refine VC.block ?_ | refine VC.kill ?_ | refine VC.skip ?_ | refine VC.exit ?_ | refine VC.regA ?_ | refine VC.condT ?_ | refine VC.condF ?_))
    refine VC.condA ?_ ?_ <;> intro h2 <;> (simp only [decide_eq_true_eq, decide_eq_false_iff_not, bne_iff_ne, ne_eq, bne_eq_false_iff_eq, beq_iff_eq, beq_eq_false_iff_ne, Bool.not_eq_true', Bool.not_eq_false', Bool.and_eq_true, Bool.or_eq_true, Int.natCast_inj] at h2)
    · have h2 : i < O.length := by omega
      have hDs := hDs h2
      have hl := hmem _ (List.getElem_mem h2)
      have hge : (O.map encP)[i]? = some (encP O[i]) := by rw [List.getElem?_map, List.getElem?_eq_getElem h2]; rfl
      generalize O[i] = l at *
      (repeat (first | refine VC.seq ?_ | refine VC.block ?_ | refine VC.kill ?_ | refine VC.skip ?_ | refine VC.exit ?_ | refine VC.regA ?_ | refine VC.condT ?_ | refine VC.condF ?_))
      refine VC.loopG (fun (a : Nat) => ⟨inV [p0, p3, p4, p5, p6, p7] [vi n, .p (.sl 1 O.length (O.map encP)), vi s, .os 1 p48 (D ++ (rIns l s).take a).length, vi i, vi a] .lf, mkB [(p48, .cells (((D ++ (rIns l s).take a).map encP).map .p))] .lf, [], none⟩) (fun k a => k = s + 1 - a ∧ a ≤ s + 1) (x := 0) ?_ ⟨rfl, Nat.zero_le _⟩ ?_
      · (apply Go.Ab.V.G.weak; constructor <;> simp (config := {decide := true}) only [PT.Le, inV, mkB, PT.set, VSt.kill, VSt.adopt, VSt.alloc, PT.filt, PT.map, List.map_cons, List.map_nil, noref, norefB, deadB, deadV, nos, nm, nmL, nmB, nmE, Pa.eqb, cond_true, cond_false, Bool.not_true, Bool.not_false, Bool.and_true, Bool.true_and, nmL_vi, flV_len, flP_len, flV_nm, flV_ok, flV_pv, flP_map, drop_flP, drop_flV, putC_flV, eqV2, eqV3, bneT, bneF, decide_true, decide_false, frzL_vi, frzL_flV, nmE_ag, nmE_at, frzE_ag, frzE_at, ofAg_len, ofAt_len, atL_vi, nmL_map_p, frzL_map_p, okL_p, toPVs_p, repsZ, nmL_reps, putC_vi, get_flV0, get_flV1, Int.toNat_zero, Int.toNat_one, Int.reduceToNat, eqV_slice, eqV_ptr, eqV_func, nilS, nilP, nilF, nmL_append, true_or, or_true, and_self, true_and, and_true, Option.some.injEq, reduceCtorEq, false_or, or_false, VV.p.injEq, PV.at.injEq, Value.int.injEq, sl1, vi, bl1, vb, nilV, vi, List.take_zero, List.append_nil])
        (all_goals first | rfl | omega | exact ⟨rfl, by omega⟩)
      rintro k3 a ⟨hk3, ha⟩
      simp only [inV, PT.set, mkB]
      have hRl : (rIns l s).length = s + 1 := by simp [rIns]
      have hRs : a < s + 1 → D ++ (rIns l s).take (a + 1) = (D ++ (rIns l s).take a) ++ [l.take a ++ [s] ++ l.drop a] := fun h => by
        rw [List.take_add_one, List.getElem?_eq_getElem (by omega), Option.toList_some, ← List.append_assoc]
        simp [rIns]
      have hRe : a = s + 1 → D ++ (rIns l s).take a = D ++ rIns l s := fun e => by rw [e, ← hRl, List.take_length]
      have hGl : (D ++ (rIns l s).take a).length ≤ 900000 := by rw [List.length_append, List.length_take]; omega
      generalize D ++ (rIns l s).take a = G at *
      (repeat (first | refine VC.seq ?_ | refine VC.block ?_ | refine VC.kill ?_ | refine VC.skip ?_ | refine VC.exit ?_ | refine VC.regA ?_ | refine VC.condT ?_ | refine VC.condF ?_))
      refine VC.condA ?_ ?_ <;> intro h3 <;> (simp only [decide_eq_true_eq, decide_eq_false_iff_not, bne_iff_ne, ne_eq, bne_eq_false_iff_eq, beq_iff_eq, beq_eq_false_iff_ne, Bool.not_eq_true', Bool.not_eq_false', Bool.and_eq_true, Bool.or_eq_true, Int.natCast_inj] at h3)
      · have h3 : a < s + 1 := by omega
        have hRs := hRs h3
        rcases Nat.eq_zero_or_pos s with hs0 | hs0
        · have hl0 : l = [] := List.eq_nil_of_length_eq_zero (by omega)
          have ha0 : a = 0 := by omega
          have hge : (O.map encP)[i]? = some (.at (.slice none 0 0)) := by rw [hge, hl0]; rfl
          subst ha0
          have hc0 : ((0 : Nat) : Int) = 0 := rfl
          simp only [hc0]
          (repeat (first | refine VC.seq ?_ | refine VC.block ?_ | refine VC.kill ?_ | refine VC.skip ?_ | refine VC.exit ?_ | refine VC.regA ?_ | refine VC.condT ?_ | refine VC.condF ?_))
          ((try (apply VC.regU; · ((simp (config := {decide := false, maxSteps := 1000000}) (disch := omega) only [vev_call, putC_c0, putC_n0, putC_cs, ble0, List.getElem?_cons_zero, List.getElem?_cons_succ, runU, isCall, wantV, vev, evV, ofVal, ofAtom, atomB, cond_true, cond_false, PT.get, PT.set, PT.filt, PT.map, Option.getD_some, Option.getD_none, ret1V, ret1X, v_ld, v_ias, v_iad, v_fad, v_slsl, v_slarr, v_st, v_app, v_cpy, v_clr, v_len, v_look, v_mset, elsV, partV, newV, free, atV, atI, atL, toVal, cellsV, okV, VSt.put, VSt.kill, VSt.alloc, VSt.frz, VSt.adopt, noref, norefB, deadB, deadV, nos, nm, nmL, nmB, nmE, Pa.eqb, Bool.not_false, Bool.not_true, Bool.and_true, Bool.true_and, Bool.false_and, Bool.and_false, bin, intOps, intBin, cvt, un, goInt, bndsV, bndV, Option.map_some, Option.map_none, List.map_cons, List.map_nil, Int.toNat_natCast, Nat.mul_one, Nat.zero_add, beq_true, beq_false, beq_self_eq_true, List.length_map, List.length_cons, List.length_nil, List.length_append, fillV, pEvV, repsV, List.append_nil, List.nil_append, if_pos, if_neg, reduceIte, List.getElem?_map, List.getElem?_drop, Nat.add_zero, List.getElem?_eq_getElem, Go.IntWalk.i64_in, wrap_u64, tmod_pos, eq_self, true_and, and_true, and_self, List.all_cons, List.all_nil, nmL_vi, flV_len, flP_len, flV_nm, flV_ok, flV_pv, flP_map, drop_flP, drop_flV, putC_flV, eqV2, eqV3, bneT, bneF, decide_true, decide_false, frzL_vi, frzL_flV, nmE_ag, nmE_at, frzE_ag, frzE_at, ofAg_len, ofAt_len, atL_vi, nmL_map_p, frzL_map_p, okL_p, toPVs_p, repsZ, nmL_reps, putC_vi, get_flV0, get_flV1, Int.toNat_zero, Int.toNat_one, Int.reduceToNat, eqV_slice, eqV_ptr, eqV_func, nilS, nilP, nilF, nmL_append, okL_vi, toPVs_vi, toPVs, toPV, frzV, frzL, frzB, resVV, vi, vb, nilV, sl1, bl1, pi, foldV, max2, min2, max_eq, min_eq, Int.tdiv_eq_ediv_of_nonneg, Int.cast_ofNat_Int, Option.isSome_none, Option.isSome_some, Option.isNone_none, Option.isNone_some, and_false, false_and, sl2, sl1P, slP, min_cast, take_map_pi, map_pi, Nat.sub_zero, Nat.zero_mul, List.length_take, decide_eq_true, decide_eq_false, Bool.true_eq_false, Bool.false_eq_true, beqT, beqF, ibeq, ibne, List.take_zero, List.take_succ_cons, List.drop_zero, List.drop_succ_cons, List.drop_nil, List.take_nil, List.cons_append, Bool.not_true, Bool.not_false, hge]); rfl))); (repeat (first | refine VC.seq ?_ | refine VC.block ?_ | refine VC.kill ?_ | refine VC.skip ?_ | refine VC.exit ?_ | refine VC.regA ?_ | refine VC.condT ?_ | refine VC.condF ?_)))
          ((try (apply VC.regU; · ((simp (config := {decide := false, maxSteps := 1000000}) (disch := omega) only [vev_call, putC_c0, putC_n0, putC_cs, ble0, List.getElem?_cons_zero, List.getElem?_cons_succ, runU, isCall, wantV, vev, evV, ofVal, ofAtom, atomB, cond_true, cond_false, PT.get, PT.set, PT.filt, PT.map, Option.getD_some, Option.getD_none, ret1V, ret1X, v_ld, v_ias, v_iad, v_fad, v_slsl, v_slarr, v_st, v_app, v_cpy, v_clr, v_len, v_look, v_mset, elsV, partV, newV, free, atV, atI, atL, toVal, cellsV, okV, VSt.put, VSt.kill, VSt.alloc, VSt.frz, VSt.adopt, noref, norefB, deadB, deadV, nos, nm, nmL, nmB, nmE, Pa.eqb, Bool.not_false, Bool.not_true, Bool.and_true, Bool.true_and, Bool.false_and, Bool.and_false, bin, intOps, intBin, cvt, un, goInt, bndsV, bndV, Option.map_some, Option.map_none, List.map_cons, List.map_nil, Int.toNat_natCast, Nat.mul_one, Nat.zero_add, beq_true, beq_false, beq_self_eq_true, List.length_map, List.length_cons, List.length_nil, List.length_append, fillV, pEvV, repsV, List.append_nil, List.nil_append, if_pos, if_neg, reduceIte, List.getElem?_map, List.getElem?_drop, Nat.add_zero, List.getElem?_eq_getElem, Go.IntWalk.i64_in, wrap_u64, tmod_pos, eq_self, true_and, and_true, and_self, List.all_cons, List.all_nil, nmL_vi, flV_len, flP_len, flV_nm, flV_ok, flV_pv, flP_map, drop_flP, drop_flV, putC_flV, eqV2, eqV3, bneT, bneF, decide_true, decide_false, frzL_vi, frzL_flV, nmE_ag, nmE_at, frzE_ag, frzE_at, ofAg_len, ofAt_len, atL_vi, nmL_map_p, frzL_map_p, okL_p, toPVs_p, repsZ, nmL_reps, putC_vi, get_flV0, get_flV1, Int.toNat_zero, Int.toNat_one, Int.reduceToNat, eqV_slice, eqV_ptr, eqV_func, nilS, nilP, nilF, nmL_append, okL_vi, toPVs_vi, toPVs, toPV, frzV, frzL, frzB, resVV, vi, vb, nilV, sl1, bl1, pi, foldV, max2, min2, max_eq, min_eq, Int.tdiv_eq_ediv_of_nonneg, Int.cast_ofNat_Int, Option.isSome_none, Option.isSome_some, Option.isNone_none, Option.isNone_some, and_false, false_and, sl2, sl1P, slP, min_cast, take_map_pi, map_pi, Nat.sub_zero, Nat.zero_mul, List.length_take, decide_eq_true, decide_eq_false, Bool.true_eq_false, Bool.false_eq_true, beqT, beqF, ibeq, ibne, List.take_zero, List.take_succ_cons, List.drop_zero, List.drop_succ_cons, List.drop_nil, List.take_nil, List.cons_append, Bool.not_true, Bool.not_false, hge]); rfl))); (repeat (first | refine VC.seq ?_ | refine VC.block ?_ | refine VC.kill ?_ | refine VC.skip ?_ | refine VC.exit ?_ | refine VC.regA ?_ | refine VC.condT ?_ | refine VC.condF ?_)))
          refine ⟨_, 0 + 1, ?_, ⟨rfl, by omega⟩, ?_⟩
          · omega
          · rw [hRs]
            refine Go.Ab.V.G.trans (Go.Ab.V.G.frz (a := p33) rfl (cs := (natI (l.take 0 ++ [s] ++ l.drop 0)).map pi) (by subst hl0; rfl) rfl) ?_
            simp only [VSt.frz, PT.map, frzL, frzV, frzB, Option.map_some, Option.map_none, PT.set, PT.filt, VSt.kill, Pa.eqb, cond_true, cond_false, Bool.and_true, Bool.and_false, Bool.false_and, Bool.true_and, frzL_map_p]
            (apply Go.Ab.V.G.weak; constructor <;> simp (config := {decide := true}) only [PT.Le, inV, mkB, PT.set, VSt.kill, VSt.adopt, VSt.alloc, PT.filt, PT.map, List.map_cons, List.map_nil, noref, norefB, deadB, deadV, nos, nm, nmL, nmB, nmE, Pa.eqb, cond_true, cond_false, Bool.not_true, Bool.not_false, Bool.and_true, Bool.true_and, nmL_vi, flV_len, flP_len, flV_nm, flV_ok, flV_pv, flP_map, drop_flP, drop_flV, putC_flV, eqV2, eqV3, bneT, bneF, decide_true, decide_false, frzL_vi, frzL_flV, nmE_ag, nmE_at, frzE_ag, frzE_at, ofAg_len, ofAt_len, atL_vi, nmL_map_p, frzL_map_p, okL_p, toPVs_p, repsZ, nmL_reps, putC_vi, get_flV0, get_flV1, Int.toNat_zero, Int.toNat_one, Int.reduceToNat, eqV_slice, eqV_ptr, eqV_func, nilS, nilP, nilF, nmL_append, true_or, or_true, and_self, true_and, and_true, Option.some.injEq, reduceCtorEq, false_or, or_false, VV.p.injEq, PV.at.injEq, Value.int.injEq, sl1, vi, bl1, vb, nilV, vi])
            all_goals first | rfl | skip
            · rw [List.length_append]; rfl
            · have e1 : (l.take 0 ++ [s] ++ l.drop 0).length = s + 1 := by subst hl0; rw [hs0]; rfl
              rw [frzL_app, frzL_map_p, List.map_append, List.map_append, List.map_cons, List.map_nil, encP_ne e1, hs0]
              rfl
        · have hle : encP l = .sl 1 s ((natI l).map pi) := by
            unfold encP
            rw [if_neg (fun e => by rw [e] at hl; simp at hl; omega), hl.1]
          rw [hle] at hge
          have hnl : (natI l).length = s := by rw [natI_len]; exact hl.1
          (repeat (first | refine VC.seq ?_ | refine VC.block ?_ | refine VC.kill ?_ | refine VC.skip ?_ | refine VC.exit ?_ | refine VC.regA ?_ | refine VC.condT ?_ | refine VC.condF ?_))
          have hta : ((natI l).take a).length = a := by rw [List.length_take]; omega
          have hda : (natI (l.drop a)).length = s - a := by rw [natI_len, List.length_drop]; omega
          have htd : (((natI l).map pi).drop a).take (s - a) = (natI (l.drop a)).map pi := by
            rw [← List.map_drop, natI_drop, List.take_of_length_le (by rw [List.length_map]; omega)]
          apply VC.regU
          · (simp (config := {decide := false, maxSteps := 1000000}) (disch := omega) only [vev_call, putC_c0, putC_n0, putC_cs, ble0, List.getElem?_cons_zero, List.getElem?_cons_succ, runU, isCall, wantV, vev, evV, ofVal, ofAtom, atomB, cond_true, cond_false, PT.get, PT.set, PT.filt, PT.map, Option.getD_some, Option.getD_none, ret1V, ret1X, v_ld, v_ias, v_iad, v_fad, v_slsl, v_slarr, v_st, v_app, v_cpy, v_clr, v_len, v_look, v_mset, elsV, partV, newV, free, atV, atI, atL, toVal, cellsV, okV, VSt.put, VSt.kill, VSt.alloc, VSt.frz, VSt.adopt, noref, norefB, deadB, deadV, nos, nm, nmL, nmB, nmE, Pa.eqb, Bool.not_false, Bool.not_true, Bool.and_true, Bool.true_and, Bool.false_and, Bool.and_false, bin, intOps, intBin, cvt, un, goInt, bndsV, bndV, Option.map_some, Option.map_none, List.map_cons, List.map_nil, Int.toNat_natCast, Nat.mul_one, Nat.zero_add, beq_true, beq_false, beq_self_eq_true, List.length_map, List.length_cons, List.length_nil, List.length_append, fillV, pEvV, repsV, List.append_nil, List.nil_append, if_pos, if_neg, reduceIte, List.getElem?_map, List.getElem?_drop, Nat.add_zero, List.getElem?_eq_getElem, Go.IntWalk.i64_in, wrap_u64, tmod_pos, eq_self, true_and, and_true, and_self, List.all_cons, List.all_nil, nmL_vi, flV_len, flP_len, flV_nm, flV_ok, flV_pv, flP_map, drop_flP, drop_flV, putC_flV, eqV2, eqV3, bneT, bneF, decide_true, decide_false, frzL_vi, frzL_flV, nmE_ag, nmE_at, frzE_ag, frzE_at, ofAg_len, ofAt_len, atL_vi, nmL_map_p, frzL_map_p, okL_p, toPVs_p, repsZ, nmL_reps, putC_vi, get_flV0, get_flV1, Int.toNat_zero, Int.toNat_one, Int.reduceToNat, eqV_slice, eqV_ptr, eqV_func, nilS, nilP, nilF, nmL_append, okL_vi, toPVs_vi, toPVs, toPV, frzV, frzL, frzB, resVV, vi, vb, nilV, sl1, bl1, pi, foldV, max2, min2, max_eq, min_eq, Int.tdiv_eq_ediv_of_nonneg, Int.cast_ofNat_Int, Option.isSome_none, Option.isSome_some, Option.isNone_none, Option.isNone_some, and_false, false_and, sl2, sl1P, slP, min_cast, take_map_pi, map_pi, Nat.sub_zero, Nat.zero_mul, List.length_take, decide_eq_true, decide_eq_false, Bool.true_eq_false, Bool.false_eq_true, beqT, beqF, ibeq, ibne, List.take_zero, List.take_succ_cons, List.drop_zero, List.drop_succ_cons, List.drop_nil, List.take_nil, List.cons_append, Bool.not_true, Bool.not_false, hge, hnl])
            rfl
          (repeat (first | refine VC.seq ?_ | refine VC.block ?_ | refine VC.kill ?_ | refine VC.skip ?_ | refine VC.exit ?_ | refine VC.regA ?_ | refine VC.condT ?_ | refine VC.condF ?_))
          apply VC.regU
          · (simp (config := {decide := false, maxSteps := 1000000}) (disch := omega) only [vev_call, putC_c0, putC_n0, putC_cs, ble0, List.getElem?_cons_zero, List.getElem?_cons_succ, runU, isCall, wantV, vev, evV, ofVal, ofAtom, atomB, cond_true, cond_false, PT.get, PT.set, PT.filt, PT.map, Option.getD_some, Option.getD_none, ret1V, ret1X, v_ld, v_ias, v_iad, v_fad, v_slsl, v_slarr, v_st, v_app, v_cpy, v_clr, v_len, v_look, v_mset, elsV, partV, newV, free, atV, atI, atL, toVal, cellsV, okV, VSt.put, VSt.kill, VSt.alloc, VSt.frz, VSt.adopt, noref, norefB, deadB, deadV, nos, nm, nmL, nmB, nmE, Pa.eqb, Bool.not_false, Bool.not_true, Bool.and_true, Bool.true_and, Bool.false_and, Bool.and_false, bin, intOps, intBin, cvt, un, goInt, bndsV, bndV, Option.map_some, Option.map_none, List.map_cons, List.map_nil, Int.toNat_natCast, Nat.mul_one, Nat.zero_add, beq_true, beq_false, beq_self_eq_true, List.length_map, List.length_cons, List.length_nil, List.length_append, fillV, pEvV, repsV, List.append_nil, List.nil_append, if_pos, if_neg, reduceIte, List.getElem?_map, List.getElem?_drop, Nat.add_zero, List.getElem?_eq_getElem, Go.IntWalk.i64_in, wrap_u64, tmod_pos, eq_self, true_and, and_true, and_self, List.all_cons, List.all_nil, nmL_vi, flV_len, flP_len, flV_nm, flV_ok, flV_pv, flP_map, drop_flP, drop_flV, putC_flV, eqV2, eqV3, bneT, bneF, decide_true, decide_false, frzL_vi, frzL_flV, nmE_ag, nmE_at, frzE_ag, frzE_at, ofAg_len, ofAt_len, atL_vi, nmL_map_p, frzL_map_p, okL_p, toPVs_p, repsZ, nmL_reps, putC_vi, get_flV0, get_flV1, Int.toNat_zero, Int.toNat_one, Int.reduceToNat, eqV_slice, eqV_ptr, eqV_func, nilS, nilP, nilF, nmL_append, okL_vi, toPVs_vi, toPVs, toPV, frzV, frzL, frzB, resVV, vi, vb, nilV, sl1, bl1, pi, foldV, max2, min2, max_eq, min_eq, Int.tdiv_eq_ediv_of_nonneg, Int.cast_ofNat_Int, Option.isSome_none, Option.isSome_some, Option.isNone_none, Option.isNone_some, and_false, false_and, sl2, sl1P, slP, min_cast, take_map_pi, map_pi, Nat.sub_zero, Nat.zero_mul, List.length_take, decide_eq_true, decide_eq_false, Bool.true_eq_false, Bool.false_eq_true, beqT, beqF, ibeq, ibne, List.take_zero, List.take_succ_cons, List.drop_zero, List.drop_succ_cons, List.drop_nil, List.take_nil, List.cons_append, Bool.not_true, Bool.not_false, hge, hnl, hta, hda, htd])
            rfl
          (repeat (first | refine VC.seq ?_ | refine VC.block ?_ | refine VC.kill ?_ | refine VC.skip ?_ | refine VC.exit ?_ | refine VC.regA ?_ | refine VC.condT ?_ | refine VC.condF ?_))
          refine ⟨_, a + 1, ?_, ⟨rfl, by omega⟩, ?_⟩
          · omega
          · rw [hRs]
            refine Go.Ab.V.G.trans (Go.Ab.V.G.frz (a := p33) rfl (cs := (natI (l.take a ++ [s] ++ l.drop a)).map pi) ?_ rfl) ?_
            · rw [← toPVs_vi]
              simp [natI, vi]
            · simp only [VSt.frz, PT.map, frzL, frzV, frzB, Option.map_some, Option.map_none, PT.set, PT.filt, VSt.kill, Pa.eqb, cond_true, cond_false, Bool.and_true, Bool.and_false, Bool.false_and, Bool.true_and, frzL_map_p]
              (apply Go.Ab.V.G.weak; constructor <;> simp (config := {decide := true}) only [PT.Le, inV, mkB, PT.set, VSt.kill, VSt.adopt, VSt.alloc, PT.filt, PT.map, List.map_cons, List.map_nil, noref, norefB, deadB, deadV, nos, nm, nmL, nmB, nmE, Pa.eqb, cond_true, cond_false, Bool.not_true, Bool.not_false, Bool.and_true, Bool.true_and, nmL_vi, flV_len, flP_len, flV_nm, flV_ok, flV_pv, flP_map, drop_flP, drop_flV, putC_flV, eqV2, eqV3, bneT, bneF, decide_true, decide_false, frzL_vi, frzL_flV, nmE_ag, nmE_at, frzE_ag, frzE_at, ofAg_len, ofAt_len, atL_vi, nmL_map_p, frzL_map_p, okL_p, toPVs_p, repsZ, nmL_reps, putC_vi, get_flV0, get_flV1, Int.toNat_zero, Int.toNat_one, Int.reduceToNat, eqV_slice, eqV_ptr, eqV_func, nilS, nilP, nilF, nmL_append, true_or, or_true, and_self, true_and, and_true, Option.some.injEq, reduceCtorEq, false_or, or_false, VV.p.injEq, PV.at.injEq, Value.int.injEq, sl1, vi, bl1, vb, nilV, vi])
              all_goals first | rfl | skip
              · exact ⟨by omega, by rw [List.length_append]; rfl⟩
              · have e1 : (l.take a ++ [s] ++ l.drop a).length = s + 1 := by
                  simp only [List.length_append, List.length_take, List.length_drop, List.length_singleton]; omega
                rw [frzL_app, frzL_map_p, List.map_append, List.map_append, List.map_cons, List.map_nil, encP_ne e1, show a + 1 + (s - a) = s + 1 from by omega]
                rfl
      · have h3 : a = s + 1 := by omega
        have hRe := hRe h3
        (repeat (first | refine VC.seq ?_ | refine VC.block ?_ | refine VC.kill ?_ | refine VC.skip ?_ | refine VC.exit ?_ | refine VC.regA ?_ | refine VC.condT ?_ | refine VC.condF ?_))
        refine ⟨_, i + 1, ?_, ⟨rfl, by omega⟩, ?_⟩
        · omega
        · rw [hDs, ← hRe]
          (apply Go.Ab.V.G.weak; constructor <;> simp (config := {decide := true}) only [PT.Le, inV, mkB, PT.set, VSt.kill, VSt.adopt, VSt.alloc, PT.filt, PT.map, List.map_cons, List.map_nil, noref, norefB, deadB, deadV, nos, nm, nmL, nmB, nmE, Pa.eqb, cond_true, cond_false, Bool.not_true, Bool.not_false, Bool.and_true, Bool.true_and, nmL_vi, flV_len, flP_len, flV_nm, flV_ok, flV_pv, flP_map, drop_flP, drop_flV, putC_flV, eqV2, eqV3, bneT, bneF, decide_true, decide_false, frzL_vi, frzL_flV, nmE_ag, nmE_at, frzE_ag, frzE_at, ofAg_len, ofAt_len, atL_vi, nmL_map_p, frzL_map_p, okL_p, toPVs_p, repsZ, nmL_reps, putC_vi, get_flV0, get_flV1, Int.toNat_zero, Int.toNat_one, Int.reduceToNat, eqV_slice, eqV_ptr, eqV_func, nilS, nilP, nilF, nmL_append, true_or, or_true, and_self, true_and, and_true, Option.some.injEq, reduceCtorEq, false_or, or_false, VV.p.injEq, PV.at.injEq, Value.int.injEq, sl1, vi, bl1, vb, nilV, vi])
          (all_goals first | rfl | omega | exact ⟨rfl, by omega⟩)
    · have h2 : i = O.length := by omega
      have hDe := hDe h2
      (repeat (first | refine VC.seq ?_ | refine VC.block ?_ | refine VC.kill ?_ | refine VC.skip ?_ | refine VC.exit ?_ | refine VC.regA ?_ | refine VC.condT ?_ | refine VC.condF ?_))
      refine ⟨_, s + 1, ?_, ⟨rfl, by omega⟩, ?_⟩
      · omega
      · rw [← hDe]
        refine Go.Ab.V.G.trans (Go.Ab.V.G.frz (a := p48) rfl (cs := D.map encP) (toPVs_p _) rfl) ?_
        simp only [VSt.frz, PT.map, frzL, frzV, frzB, Option.map_some, Option.map_none, PT.set, PT.filt, VSt.kill, Pa.eqb, cond_true, cond_false, Bool.and_true, Bool.and_false, Bool.false_and, Bool.true_and, frzL_map_p]
        (apply Go.Ab.V.G.weak; constructor <;> simp (config := {decide := true}) only [PT.Le, inV, mkB, PT.set, VSt.kill, VSt.adopt, VSt.alloc, PT.filt, PT.map, List.map_cons, List.map_nil, noref, norefB, deadB, deadV, nos, nm, nmL, nmB, nmE, Pa.eqb, cond_true, cond_false, Bool.not_true, Bool.not_false, Bool.and_true, Bool.true_and, nmL_vi, flV_len, flP_len, flV_nm, flV_ok, flV_pv, flP_map, drop_flP, drop_flV, putC_flV, eqV2, eqV3, bneT, bneF, decide_true, decide_false, frzL_vi, frzL_flV, nmE_ag, nmE_at, frzE_ag, frzE_at, ofAg_len, ofAt_len, atL_vi, nmL_map_p, frzL_map_p, okL_p, toPVs_p, repsZ, nmL_reps, putC_vi, get_flV0, get_flV1, Int.toNat_zero, Int.toNat_one, Int.reduceToNat, eqV_slice, eqV_ptr, eqV_func, nilS, nilP, nilF, nmL_append, true_or, or_true, and_self, true_and, and_true, Option.some.injEq, reduceCtorEq, false_or, or_false, VV.p.injEq, PV.at.injEq, Value.int.injEq, sl1, vi, bl1, vb, nilV, vi])
        (all_goals first | rfl | omega | exact ⟨rfl, by omega⟩)
  · have h' : s = n := by omega
    have he := hend h'
    rw [← he]
    (repeat (first | refine VC.seq ?_ | refine VC.block ?_ | refine VC.kill ?_ | refine VC.skip ?_ | refine VC.exit ?_ | refine VC.regA ?_ | refine VC.condT ?_ | refine VC.condF ?_))
    exact VC.ret (Fin.A rfl)
end Go.Ab.Dues

namespace Go.Ab.Dues
open Go.Ab.V
set_option maxRecDepth 100000
theorem G.encP {S : VSt} {p : Pa} {l : List Nat} {S2 : VSt} (hp : PT.get p S.L = some (.p (encP l))) (hq : G ⟨PT.set p S.L (some (sl1 (natI l))), S.B, S.K, S.H⟩ S2) : G S S2 := by
  by_cases h : l = []
  · subst h
    exact G.nilp 1 hq hp
  · have e : Dues.encP l = .sl 1 l.length ((natI l).map pi) := by unfold Dues.encP; rw [if_neg h]
    rw [e] at hp
    refine G.trans (S2 := ⟨PT.set p S.L (some (sl1 (natI l))), S.B, S.K, S.H⟩) ?_ hq
    intro X s h ids F t
    refine ⟨ids, F, ⟨t.wf, t.base, t.next, t.keep, t.frz, t.flt, t.blk, t.own, t.inj, fun q x hq => ?_, t.stab, t.hist, t.nx⟩⟩
    have hq : PT.get q (PT.set p S.L (some (sl1 (natI l)))) = some x := hq
    rw [PT.get_set] at hq
    split at hq
    · rename_i e; cases hq; subst e
      have := t.slots q _ hp
      unfold sl1; rw [natI_len]; exact this
    · exact t.slots q x hq
theorem rOrd_pos : ∀ n, 0 < (rOrd n).length
  | 0 => by decide
  | n + 1 => by
    have := rOrd_pos n
    rw [show rOrd (n + 1) = (rOrd n).flatMap fun l => rIns l n from rfl]
    cases h : rOrd n with
    | nil => rw [h] at this; cases this
    | cons x l => rw [List.flatMap_cons, List.length_append]; simp [rIns]; omega
end Go.Ab.Dues

/- Another name for a block of one's own. -/
namespace Go.Ab.V
def rnP (a b c : Pa) : Pa := bif a.eqb c then b else c
mutual
def renV (a b : Pa) : VV → VV
  | .os u c n => .os u (rnP a b c) n
  | .ob u c off n k => .ob u (rnP a b c) off n k
  | .op u c off => .op u (rnP a b c) off
  | .om c => .om (rnP a b c)
  | .oi c => .oi (rnP a b c)
  | .clos f x y => .clos f (renL a b x) (renL a b y)
  | .agg x => .agg (renL a b x)
  | .tup x => .tup (renL a b x)
  | x => x
def renL (a b : Pa) : List VV → List VV
  | [] => []
  | x :: r => renV a b x :: renL a b r
end
theorem renL_eq (a b : Pa) : ∀ l, renL a b l = l.map (renV a b)
  | [] => rfl
  | x :: r => by simp only [renL, List.map_cons, renL_eq a b r]
def renB (a b : Pa) : VB → VB
  | .cells l => .cells (renL a b l)
  | .map es => .map (es.map fun e => (e.1, renV a b e.2))
  | .siter s p => .siter s p
mutual
theorem renV_id {a b : Pa} : ∀ {x : VV}, a ∉ nm x → renV a b x = x
  | .os u c n, h => by simp only [renV, rnP]; rw [show a.eqb c = false from ?_, cond_false]; cases e : a.eqb c; rfl; exact absurd (Pa.eqb_iff.1 e) (by simpa [nm] using h)
  | .ob u c off n k, h => by simp only [renV, rnP]; rw [show a.eqb c = false from ?_, cond_false]; cases e : a.eqb c; rfl; exact absurd (Pa.eqb_iff.1 e) (by simpa [nm] using h)
  | .op u c off, h => by simp only [renV, rnP]; rw [show a.eqb c = false from ?_, cond_false]; cases e : a.eqb c; rfl; exact absurd (Pa.eqb_iff.1 e) (by simpa [nm] using h)
  | .om c, h => by simp only [renV, rnP]; rw [show a.eqb c = false from ?_, cond_false]; cases e : a.eqb c; rfl; exact absurd (Pa.eqb_iff.1 e) (by simpa [nm] using h)
  | .oi c, h => by simp only [renV, rnP]; rw [show a.eqb c = false from ?_, cond_false]; cases e : a.eqb c; rfl; exact absurd (Pa.eqb_iff.1 e) (by simpa [nm] using h)
  | .clos f x y, h => by
    simp only [nm, List.mem_append, not_or] at h
    simp only [renV, renL_id h.1, renL_id h.2]
  | .agg x, h => by simp only [renV, renL_id (l := x) h]
  | .tup x, h => by simp only [renV, renL_id (l := x) h]
  | .p _, _ => rfl
  | .xs, _ => rfl
  | .yl _, _ => rfl
  | .skip, _ => rfl
  | .dead, _ => rfl
theorem renL_id {a b : Pa} : ∀ {l : List VV}, a ∉ nmL l → renL a b l = l
  | [], _ => rfl
  | x :: r, h => by
    simp only [nmL, List.mem_append, not_or] at h
    simp only [renL, renV_id h.1, renL_id h.2]
end
section
variable {X : Ctx} {S : VSt} {s : Slots} {h : AHeap} {ids : Pa → Option Nat} {F : Nat → Prop} {v : Value} {x : VV} {rd : Addr → List Value → Prop} {a b : Pa}
theorem rnP_id (he : ids b = ids a) (c : Pa) : ids (rnP a b c) = ids c := by
  unfold rnP
  cases hb : a.eqb c with
  | false => rfl
  | true => rw [eqb_true hb]; exact he
theorem ren_sound (he : ids b = ids a) (r : Vr rd ids v x) : Vr rd ids v (renV a b x) := by
  have hL : ∀ {xs : List Value} {ys : List VV}, xs.length = ys.length → (∀ (i : Nat) x y, xs[i]? = some x → ys[i]? = some y → Vr rd ids x (renV a b y)) →
      xs.length = (renL a b ys).length ∧ ∀ (i : Nat) x y, xs[i]? = some x → (renL a b ys)[i]? = some y → Vr rd ids x y := by
    intro xs ys hl h
    rw [renL_eq]
    refine ⟨by simp [hl], fun i x y hx hy => ?_⟩
    rw [List.getElem?_map] at hy
    cases hi : ys[i]? with
    | none => rw [hi] at hy; cases hy
    | some z => rw [hi] at hy; cases hy; exact h i x z hx hi
  induction r with
  | p r => exact .p r
  | xs e => exact .xs e
  | osN e h0 => exact .osN (by rw [rnP_id he]; exact e) h0
  | os n e ht => exact .os n (by rw [rnP_id he]; exact e) ht
  | ob off e ht hc => exact .ob off (by rw [rnP_id he]; exact e) ht hc
  | op off e ht => exact .op off (by rw [rnP_id he]; exact e) ht
  | om e => exact .om (by rw [rnP_id he]; exact e)
  | oi e => exact .oi (by rw [rnP_id he]; exact e)
  | clos f h1 _ h2 _ i1 i2 =>
    obtain ⟨a1, a2⟩ := hL h1 i1
    obtain ⟨b1, b2⟩ := hL h2 i2
    exact .clos f a1 a2 b1 b2
  | agg h1 _ i1 => obtain ⟨a1, a2⟩ := hL h1 i1; exact .agg a1 a2
  | tup h1 _ i1 => obtain ⟨a1, a2⟩ := hL h1 i1; exact .tup a1 a2
  | yl l => exact .yl l
  | skip => exact .skip
  | dead v => exact .dead v
theorem renB_sound (he : ids b = ids a) {o : Option Nat} {B : VB} (r : BlkR rd ids h o B) : BlkR rd ids h o (renB a b B) := by
  cases o with
  | none => cases B with
    | cells cs =>
      have r : cs = [] := r
      subst r; rfl
    | map es => exact r
    | siter s pos => exact r
  | some k => cases B with
    | cells cs =>
      obtain ⟨c, h1, h2⟩ := r
      refine ⟨c, h1, by rw [renL_eq, List.length_map]; exact h2.1, fun i x y hx hy => ?_⟩
      rw [renL_eq, List.getElem?_map] at hy
      cases hc : cs[i]? with
      | none => rw [hc] at hy; cases hy
      | some z => rw [hc] at hy; cases hy; exact ren_sound he (h2.2 i x z hx hc)
    | map es =>
      obtain ⟨c, h1, h2⟩ := r
      refine ⟨c, h1, by rw [List.length_map]; exact h2.1, fun i x y hx hy => ?_⟩
      rw [List.getElem?_map] at hy
      cases hc : es[i]? with
      | none => rw [hc] at hy; cases hy
      | some z =>
        rw [hc] at hy; cases hy
        have := h2.2 i x z hx hc
        exact ⟨this.1, ren_sound he this.2⟩
    | siter s pos => exact r
def _root_.Go.Ab.VSt.ren (S : VSt) (a b : Pa) (l : VB) : VSt := ⟨PT.map (renV a b) (PT.filt (noref b) S.L), PT.set b (PT.map (renB a b) (PT.map (deadB b) (PT.set a S.B none))) (some (renB a b (deadB b l))), S.K, S.H⟩
theorem G.ren {l : VB} (a b : Pa) (hb : PT.get a S.B = some l) (hab : a.eqb b = false) (ha : free S a = true) (hf : free S b = true) {S2 : VSt} (hq : G (S.ren a b l) S2) : G S S2 := by
  refine G.trans ?_ hq
  intro X s h ids F t
  have hne : b ≠ a := fun e => by rw [Pa.eqb_iff.2 e.symm] at hab; cases hab
  have ha := nos_spec ha
  have hf := nos_spec hf
  obtain ⟨ids', hi⟩ : ∃ ids', ids' = updI ids b (ids a) := ⟨_, rfl⟩
  have i1 : ∀ c, c ≠ b → ids' c = ids c := fun c hc => by rw [hi, updI_ne _ _ hc]
  have i2 : ids' b = ids a := by rw [hi, updI_same]
  have i3 : ids' b = ids' a := by rw [i2, i1 a (Ne.symm hne)]
  have hB : ∀ {c bl}, PT.get c (S.ren a b l).B = some bl → (c = b ∧ bl = renB a b (deadB b l)) ∨ (c ≠ b ∧ c ≠ a ∧ ∃ b0, PT.get c S.B = some b0 ∧ bl = renB a b (deadB b b0)) := by
    intro c bl hg
    have hg : PT.get c (PT.set b (PT.map (renB a b) (PT.map (deadB b) (PT.set a S.B none))) (some (renB a b (deadB b l)))) = some bl := hg
    rw [PT.get_set] at hg
    split at hg
    · rename_i e; cases hg; exact .inl ⟨e, rfl⟩
    · rename_i e
      obtain ⟨b1, h1, rfl⟩ := PT.get_map hg
      obtain ⟨b2, h2, rfl⟩ := PT.get_map h1
      rw [PT.get_set] at h2
      split at h2
      · cases h2
      · rename_i e2; exact .inr ⟨e, e2, b2, h2, rfl⟩
  refine ⟨ids', F, t.wf, t.base, t.next, t.keep, t.frz, t.flt, fun c bl hc => ?_, fun c bl k hc hk => ?_, fun c c' b1 b2 k h1 h2 e1 e2 => ?_, fun p x hx => ?_, fun c hc => ?_, t.hist, t.nx⟩
  · rcases hB hc with ⟨rfl, rfl⟩ | ⟨hcb, hca, b0, h0, rfl⟩
    · rw [i2]
      exact renB_sound i3 ((t.blk a l hb).deadM (fun _ _ r => r) i1 (fun _ _ => rfl))
    · rw [i1 c hcb]
      exact renB_sound i3 ((t.blk c b0 h0).deadM (fun _ _ r => r) i1 (fun _ _ => rfl))
  · rcases hB hc with ⟨rfl, rfl⟩ | ⟨hcb, hca, b0, h0, rfl⟩
    · rw [i2] at hk
      obtain ⟨o1, o2⟩ := t.own a l k hb hk
      exact ⟨o1, o2.imp id fun h => absurd h.2 ha⟩
    · rw [i1 c hcb] at hk
      exact t.own c b0 k h0 hk
  · rcases hB h1 with ⟨rfl, rfl⟩ | ⟨hcb, hca, b0, h0, rfl⟩
    · rcases hB h2 with ⟨rfl, rfl⟩ | ⟨hcb', hca', b0', h0', rfl⟩
      · rfl
      · rw [i2] at e1; rw [i1 _ hcb'] at e2
        exact absurd (t.inj c' a b0' l k h0' hb e2 e1) hca'
    · rcases hB h2 with ⟨rfl, rfl⟩ | ⟨hcb', hca', b0', h0', rfl⟩
      · rw [i1 _ hcb] at e1; rw [i2] at e2
        exact absurd (t.inj c a b0 l k h0 hb e1 e2) hca
      · rw [i1 _ hcb] at e1; rw [i1 _ hcb'] at e2
        exact t.inj c c' b0 b0' k h0 h0' e1 e2
  · have hx : PT.get p (PT.map (renV a b) (PT.filt (noref b) S.L)) = some x := hx
    obtain ⟨y, hy, rfl⟩ := PT.get_map hx
    obtain ⟨g1, g2⟩ := PT.get_filt hy
    exact ren_sound i3 ((t.slots p y g1).mono (fun _ _ r => r) fun c hc => i1 c fun e => nos_spec g2 (by rw [← e]; exact hc))
  · rw [i1 c (fun e => hf (by rw [← e]; exact hc))]
    exact t.stab c hc
end
end Go.Ab.V

namespace Go.Ab.Dues
open Go.Ab.V
set_option maxRecDepth 100000
/-! ### The ship with which the cost is greater than a limit for the first time -/
def piv (c : Can) (lim : Int) : Nat → List Nat → Option Nat
  | _, [] => none
  | b, s :: l => if costS c (b ||| 2 ^ s) > lim then some s else piv c lim (b ||| 2 ^ s) l
def pvO (n : Nat) : Option Nat → List Int
  | none => List.replicate n 0
  | some s => (List.replicate n 0).set s 1
def pwO (c : Can) (lim : Int) (l : List Nat) : List Int := pvO l.length (piv c lim 0 l)
def pwM (c : Can) (lim : Int) : List (Nat × Int) → Nat → List Nat → List (Nat × Int)
  | M, _, [] => M
  | M, b, s :: l => if costS c (b ||| 2 ^ s) > lim then memo c M (b ||| 2 ^ s) else pwM c lim (memo c M (b ||| 2 ^ s)) (b ||| 2 ^ s) l
theorem pwO_len (c : Can) (lim : Int) (l : List Nat) : (pwO c lim l).length = l.length := by
  unfold pwO; cases piv c lim 0 l <;> simp [pvO]
theorem pwO_bd (c : Can) (lim : Int) (l : List Nat) : ∀ x ∈ pwO c lim l, 0 ≤ x ∧ x ≤ 10000 := by
  unfold pwO
  cases piv c lim 0 l with
  | none => intro x hx; rw [List.eq_of_mem_replicate hx]; decide
  | some s =>
    intro x hx
    rcases List.mem_or_eq_of_mem_set hx with hx | rfl
    · rw [List.eq_of_mem_replicate hx]; decide
    · decide
theorem pwM_okM {c : Can} (lim : Int) : ∀ (l : List Nat) {M : List (Nat × Int)} (b : Nat), okM c M → okM c (pwM c lim M b l)
  | [], M, b, h => h
  | s :: l, M, b, h => by
    unfold pwM
    split
    · exact okM_memo h _
    · exact pwM_okM lim l _ (okM_memo h _)
set_option maxHeartbeats 8000000 in
theorem Power1_ok (c : Can) (h : okC c) (lim : Int) (M : List (Nat × Int)) (hM : okM c M) (l : List Nat) (hl : l.length = c.ships.length) (hm : ∀ s ∈ l, s < c.ships.length) :
    VCall cfg 67 [.os 1 p40 l.length, .op 0 p150 0, .op 0 p151 0] [(p16, .cells (flC c (needK c c.ships.length) p14)), (p14, .map (esM M)), (p150, .cells [.op 0 p16 0]), (p151, .cells [vi lim]), (p40, .cells ((natI l).map vi))] [] (sl1 (pwO c lim l)) [(p16, .cells (flC c (needK c c.ships.length) p14)), (p14, .map (esM (pwM c lim M 0 l))), (p150, .cells [.op 0 p16 0]), (p151, .cells [vi lim]), (p40, .cells ((natI l).map vi))] := by
  have h7 := h.s7
  have kc := cost_ok c h
  have hcb := costS_bd h
  have hnm := fl_nm c (needK c c.ships.length) p14
  have hfz := fl_frz c (needK c c.ships.length) p14
  generalize flC c (needK c c.ships.length) p14 = FL at *
  obtain ⟨L, hLL⟩ : ∃ L, natI l = L := ⟨_, rfl⟩
  have hlL : L.length = l.length := by rw [← hLL]; exact natI_len l
  have hgL : ∀ i (h : i < L.length) (h2 : i < l.length), L[i] = ((l[i] : Nat) : Int) := fun i h h2 => by subst hLL; exact natI_get l i h
  have hds : ∀ i (h : i < l.length), l.drop i = l[i] :: l.drop (i + 1) := fun i h => List.drop_eq_getElem_cons h
  have hde : ∀ i, i = L.length → l.drop i = [] := fun i e => List.drop_of_length_le (by omega)
  have hpw : pwO c lim l = pvO L.length (piv c lim 0 (l.drop 0)) := by unfold pwO; rw [hlL, List.drop_zero]
  have hpm : pwM c lim M 0 l = pwM c lim M 0 (l.drop 0) := rfl
  have hm' : ∀ i (h : i < l.length), l[i] < c.ships.length := fun i h => hm _ (List.getElem_mem h)
  rw [hpw, hpm, hLL, ← hlL]
  generalize hPv : piv c lim 0 (l.drop 0) = P
  generalize hPm : pwM c lim M 0 (l.drop 0) = PM
  clear hLL hpw hpm hm
  refine VCall.mk (fn := a67) rfl rfl rfl ?_
  simp only [a67, inV, mkB, nmsL, PT.set]
  (repeat (first | refine VC.seq ?_ | refine VC.block ?_ | refine VC.kill ?_ | refine VC.skip ?_ | refine VC.exit ?_ | refine VC.regA ?_ | refine VC.condT ?_ | refine VC.condF ?_))
  refine VC.loopG (fun (q : Nat × Nat × List (Nat × Int)) => ⟨inV [p1, p2, p5, p6, p12, p13, p14] [.op 0 p150 0, .op 0 p151 0, .os 1 p11 L.length, vi (q.2.1 : Nat), .os 1 p40 L.length, vi L.length, vi (q.1 : Nat)] .lf, mkB [(p16, .cells FL), (p14, .map (esM q.2.2)), (p150, .cells [.op 0 p16 0]), (p151, .cells [vi lim]), (p11, .cells ((List.replicate L.length (0 : Int)).map vi)), (p40, .cells (L.map vi))] .lf, [p16, p14, p150, p151, p40], none⟩) (fun n q => n = L.length - q.1 ∧ q.1 ≤ L.length ∧ q.2.1 < 2 ^ c.ships.length ∧ okM c q.2.2 ∧ piv c lim q.2.1 (l.drop q.1) = P ∧ pwM c lim q.2.2 q.2.1 (l.drop q.1) = PM) (x := (0, 0, M)) ?_ ⟨rfl, Nat.zero_le _, Nat.pow_pos (by decide), hM, hPv, hPm⟩ ?_
  · (apply Go.Ab.V.G.weak; constructor <;> simp (config := {decide := true}) only [PT.Le, inV, mkB, PT.set, VSt.kill, VSt.adopt, VSt.alloc, PT.filt, PT.map, List.map_cons, List.map_nil, noref, norefB, deadB, deadV, nos, nm, nmL, nmB, nmE, Pa.eqb, cond_true, cond_false, Bool.not_true, Bool.not_false, Bool.and_true, Bool.true_and, nmL_vi, flV_len, flP_len, flV_nm, flV_ok, flV_pv, flP_map, drop_flP, drop_flV, putC_flV, eqV2, eqV3, bneT, bneF, decide_true, decide_false, frzL_vi, frzL_flV, nmE_ag, nmE_at, frzE_ag, frzE_at, ofAg_len, ofAt_len, atL_vi, nmL_map_p, frzL_map_p, okL_p, toPVs_p, repsZ, nmL_reps, putC_vi, get_flV0, get_flV1, Int.toNat_zero, Int.toNat_one, Int.reduceToNat, eqV_slice, eqV_ptr, eqV_func, nilS, nilP, nilF, nmL_append, true_or, or_true, and_self, true_and, and_true, Option.some.injEq, reduceCtorEq, false_or, or_false, VV.p.injEq, PV.at.injEq, Value.int.injEq, sl1, vi, bl1, vb, nilV, sl1, hnm, es_nm])
    (all_goals first | rfl | omega | exact ⟨rfl, by omega⟩)
  rintro n ⟨i, b, M'⟩ ⟨hn, hi, i2, i3, i4, i5⟩
  simp only at hn hi i2 i3 i4 i5
  simp only [inV, PT.set, mkB]
  have hb7 : b < 128 := Nat.lt_of_lt_of_le i2 (show 2 ^ c.ships.length ≤ 2 ^ 7 from Nat.pow_le_pow_right (by decide) h7)
  have hds := hds i
  have hde := hde i
  generalize l.drop i = D at *
  (repeat (first | refine VC.seq ?_ | refine VC.block ?_ | refine VC.kill ?_ | refine VC.skip ?_ | refine VC.exit ?_ | refine VC.regA ?_ | refine VC.condT ?_ | refine VC.condF ?_))
  refine VC.condA ?_ ?_ <;> intro h' <;> (simp only [decide_eq_true_eq, decide_eq_false_iff_not, bne_iff_ne, ne_eq, bne_eq_false_iff_eq, beq_iff_eq, beq_eq_false_iff_ne, Bool.not_eq_true', Bool.not_eq_false', Bool.and_eq_true, Bool.or_eq_true, Int.natCast_inj] at h')
  · have h' : i < L.length := by omega
    have h'' : i < l.length := by omega
    have hg := hgL i h' h''
    have hsm := hm' i h''
    have hds := hds h''
    generalize hs : l[i] = s at *
    rw [hds] at i4 i5
    unfold piv at i4
    unfold pwM at i5
    have hbs : b ||| 2 ^ s < 2 ^ c.ships.length := Nat.or_lt_two_pow i2 (Nat.pow_lt_pow_right (by decide) hsm)
    have k1 := kc M' i3 (b ||| 2 ^ s) hbs
    have hc1 := hcb (b ||| 2 ^ s)
    have hp7 : 2 ^ s < 128 := Nat.lt_of_lt_of_le (Nat.pow_lt_pow_right (by decide) hsm) (show 2 ^ c.ships.length ≤ 2 ^ 7 from Nat.pow_le_pow_right (by decide) h7)
    have hor := or_i64 (a := b) (b := 2 ^ s) (by omega) (by omega)
    have hmod : (s : Int) % 18446744073709551616 = (s : Int) := by omega
    have hsh := shl_one (n := s) (by omega)
    have hshw := shl_w (q := s) (by omega)
    have i3' : okM c (memo c M' (b ||| 2 ^ s)) := okM_memo i3 _
    generalize costS c (b ||| 2 ^ s) = x1 at *
    generalize memo c M' (b ||| 2 ^ s) = M1 at *
    have e1 := es_nm M'
    have e2 := es_nm M1
    generalize hE0 : esM M' = E0 at *
    generalize hE1 : esM M1 = E1 at *
    generalize b ||| 2 ^ s = b2 at *
    have hse : s < (List.replicate L.length (0 : Int)).length := by rw [List.length_replicate]; omega
    have hpv := putC_vi (List.replicate L.length (0 : Int)) s 1 hse
    generalize 2 ^ s = w at *
    (repeat (first | refine VC.seq ?_ | refine VC.block ?_ | refine VC.kill ?_ | refine VC.skip ?_ | refine VC.exit ?_ | refine VC.regA ?_ | refine VC.condT ?_ | refine VC.condF ?_))
    simp only [hg]
    apply VC.regU
    · (simp (config := {decide := false, maxSteps := 1000000}) (disch := omega) only [vev_call, putC_c0, putC_n0, putC_cs, ble0, List.getElem?_cons_zero, List.getElem?_cons_succ, runU, isCall, wantV, vev, evV, ofVal, ofAtom, atomB, cond_true, cond_false, PT.get, PT.set, PT.filt, PT.map, Option.getD_some, Option.getD_none, ret1V, ret1X, v_ld, v_ias, v_iad, v_fad, v_slsl, v_slarr, v_st, v_app, v_cpy, v_clr, v_len, v_look, v_mset, elsV, partV, newV, free, atV, atI, atL, toVal, cellsV, okV, VSt.put, VSt.kill, VSt.alloc, VSt.frz, VSt.adopt, noref, norefB, deadB, deadV, nos, nm, nmL, nmB, nmE, Pa.eqb, Bool.not_false, Bool.not_true, Bool.and_true, Bool.true_and, Bool.false_and, Bool.and_false, bin, intOps, intBin, cvt, un, goInt, bndsV, bndV, Option.map_some, Option.map_none, List.map_cons, List.map_nil, Int.toNat_natCast, Nat.mul_one, Nat.zero_add, beq_true, beq_false, beq_self_eq_true, List.length_map, List.length_cons, List.length_nil, List.length_append, fillV, pEvV, repsV, List.append_nil, List.nil_append, if_pos, if_neg, reduceIte, List.getElem?_map, List.getElem?_drop, Nat.add_zero, List.getElem?_eq_getElem, Go.IntWalk.i64_in, wrap_u64, tmod_pos, eq_self, true_and, and_true, and_self, List.all_cons, List.all_nil, nmL_vi, flV_len, flP_len, flV_nm, flV_ok, flV_pv, flP_map, drop_flP, drop_flV, putC_flV, eqV2, eqV3, bneT, bneF, decide_true, decide_false, frzL_vi, frzL_flV, nmE_ag, nmE_at, frzE_ag, frzE_at, ofAg_len, ofAt_len, atL_vi, nmL_map_p, frzL_map_p, okL_p, toPVs_p, repsZ, nmL_reps, putC_vi, get_flV0, get_flV1, Int.toNat_zero, Int.toNat_one, Int.reduceToNat, eqV_slice, eqV_ptr, eqV_func, nilS, nilP, nilF, nmL_append, okL_vi, toPVs_vi, toPVs, toPV, frzV, frzL, frzB, resVV, vi, vb, nilV, sl1, bl1, pi, foldV, max2, min2, max_eq, min_eq, Int.tdiv_eq_ediv_of_nonneg, Int.cast_ofNat_Int, Option.isSome_none, Option.isSome_some, Option.isNone_none, Option.isNone_some, and_false, false_and, sl2, sl1P, slP, min_cast, take_map_pi, map_pi, Nat.sub_zero, Nat.zero_mul, List.length_take, decide_eq_true, decide_eq_false, Bool.true_eq_false, Bool.false_eq_true, beqT, beqF, ibeq, ibne, List.take_zero, List.take_succ_cons, List.drop_zero, List.drop_succ_cons, List.drop_nil, List.take_nil, List.cons_append, Bool.not_true, Bool.not_false, hmod, hsh, hor])
      rfl
    (repeat (first | refine VC.seq ?_ | refine VC.block ?_ | refine VC.kill ?_ | refine VC.skip ?_ | refine VC.exit ?_ | refine VC.regA ?_ | refine VC.condT ?_ | refine VC.condF ?_))
    refine VC.planP [p151] rfl ?_
    (apply VPl.run; · ((simp (config := {decide := false, maxSteps := 1000000}) (disch := omega) only [vev_call, putC_c0, putC_n0, putC_cs, ble0, List.getElem?_cons_zero, List.getElem?_cons_succ, runU, isCall, wantV, vev, evV, ofVal, ofAtom, atomB, cond_true, cond_false, PT.get, PT.set, PT.filt, PT.map, Option.getD_some, Option.getD_none, ret1V, ret1X, v_ld, v_ias, v_iad, v_fad, v_slsl, v_slarr, v_st, v_app, v_cpy, v_clr, v_len, v_look, v_mset, elsV, partV, newV, free, atV, atI, atL, toVal, cellsV, okV, VSt.put, VSt.kill, VSt.alloc, VSt.frz, VSt.adopt, noref, norefB, deadB, deadV, nos, nm, nmL, nmB, nmE, Pa.eqb, Bool.not_false, Bool.not_true, Bool.and_true, Bool.true_and, Bool.false_and, Bool.and_false, bin, intOps, intBin, cvt, un, goInt, bndsV, bndV, Option.map_some, Option.map_none, List.map_cons, List.map_nil, Int.toNat_natCast, Nat.mul_one, Nat.zero_add, beq_true, beq_false, beq_self_eq_true, List.length_map, List.length_cons, List.length_nil, List.length_append, fillV, pEvV, repsV, List.append_nil, List.nil_append, if_pos, if_neg, reduceIte, List.getElem?_map, List.getElem?_drop, Nat.add_zero, List.getElem?_eq_getElem, Go.IntWalk.i64_in, wrap_u64, tmod_pos, eq_self, true_and, and_true, and_self, List.all_cons, List.all_nil, nmL_vi, flV_len, flP_len, flV_nm, flV_ok, flV_pv, flP_map, drop_flP, drop_flV, putC_flV, eqV2, eqV3, bneT, bneF, decide_true, decide_false, frzL_vi, frzL_flV, nmE_ag, nmE_at, frzE_ag, frzE_at, ofAg_len, ofAt_len, atL_vi, nmL_map_p, frzL_map_p, okL_p, toPVs_p, repsZ, nmL_reps, putC_vi, get_flV0, get_flV1, Int.toNat_zero, Int.toNat_one, Int.reduceToNat, eqV_slice, eqV_ptr, eqV_func, nilS, nilP, nilF, nmL_append, okL_vi, toPVs_vi, toPVs, toPV, frzV, frzL, frzB, resVV, vi, vb, nilV, sl1, bl1, pi, foldV, max2, min2, max_eq, min_eq, Int.tdiv_eq_ediv_of_nonneg, Int.cast_ofNat_Int, Option.isSome_none, Option.isSome_some, Option.isNone_none, Option.isNone_some, and_false, false_and, sl2, sl1P, slP, min_cast, take_map_pi, map_pi, Nat.sub_zero, Nat.zero_mul, List.length_take, decide_eq_true, decide_eq_false, Bool.true_eq_false, Bool.false_eq_true, beqT, beqF, ibeq, ibne, List.take_zero, List.take_succ_cons, List.drop_zero, List.drop_succ_cons, List.drop_nil, List.take_nil, List.cons_append, Bool.not_true, Bool.not_false, runP, pur, lookB, okPl, okPl1, List.any_cons, List.any_nil, Nat.reduceBEq, Nat.reduceEqDiff, beq_self_eq_true, Bool.or_false, Bool.or_true, Bool.false_or, Bool.true_or, Bool.not_true, Bool.not_false, Bool.and_true, Bool.true_and, Nat.zero_add, Nat.reduceAdd, nos, Pa.eqb]); rfl))
    refine VPl.callB [(p16, .cells FL), (p14, .map E0)] (mkB [(p11, .cells ((List.replicate L.length (0 : Int)).map vi)), (p40, .cells (L.map vi)), (p150, .cells [.op 0 p16 0]), (p151, .cells [vi lim])] .lf) (no_orc 68 (by decide)) k1 rfl ?_ ?_ rfl rfl rfl rfl rfl rfl rfl ?_
    · simp [mkB, PT.set, PT.Le, VSt.kill, sl1, vi]
    · simp [mkB, PT.set, PT.Le, VSt.kill, sl1, vi]
    (simp only [filtN, filtNB, mkB, PT.set, VSt.put, PT.filt, noref, norefB, nos, nm, nmL, nmB, nmL_vi, nmL_map_p, nmE_ag, flV_nm, List.nil_append, List.append_nil, Pa.eqb, cond_true, cond_false, Bool.and_true, Bool.not_false, Bool.not_true])
    (apply VPl.run; · ((simp (config := {decide := false, maxSteps := 1000000}) (disch := omega) only [vev_call, putC_c0, putC_n0, putC_cs, ble0, List.getElem?_cons_zero, List.getElem?_cons_succ, runU, isCall, wantV, vev, evV, ofVal, ofAtom, atomB, cond_true, cond_false, PT.get, PT.set, PT.filt, PT.map, Option.getD_some, Option.getD_none, ret1V, ret1X, v_ld, v_ias, v_iad, v_fad, v_slsl, v_slarr, v_st, v_app, v_cpy, v_clr, v_len, v_look, v_mset, elsV, partV, newV, free, atV, atI, atL, toVal, cellsV, okV, VSt.put, VSt.kill, VSt.alloc, VSt.frz, VSt.adopt, noref, norefB, deadB, deadV, nos, nm, nmL, nmB, nmE, Pa.eqb, Bool.not_false, Bool.not_true, Bool.and_true, Bool.true_and, Bool.false_and, Bool.and_false, bin, intOps, intBin, cvt, un, goInt, bndsV, bndV, Option.map_some, Option.map_none, List.map_cons, List.map_nil, Int.toNat_natCast, Nat.mul_one, Nat.zero_add, beq_true, beq_false, beq_self_eq_true, List.length_map, List.length_cons, List.length_nil, List.length_append, fillV, pEvV, repsV, List.append_nil, List.nil_append, if_pos, if_neg, reduceIte, List.getElem?_map, List.getElem?_drop, Nat.add_zero, List.getElem?_eq_getElem, Go.IntWalk.i64_in, wrap_u64, tmod_pos, eq_self, true_and, and_true, and_self, List.all_cons, List.all_nil, nmL_vi, flV_len, flP_len, flV_nm, flV_ok, flV_pv, flP_map, drop_flP, drop_flV, putC_flV, eqV2, eqV3, bneT, bneF, decide_true, decide_false, frzL_vi, frzL_flV, nmE_ag, nmE_at, frzE_ag, frzE_at, ofAg_len, ofAt_len, atL_vi, nmL_map_p, frzL_map_p, okL_p, toPVs_p, repsZ, nmL_reps, putC_vi, get_flV0, get_flV1, Int.toNat_zero, Int.toNat_one, Int.reduceToNat, eqV_slice, eqV_ptr, eqV_func, nilS, nilP, nilF, nmL_append, okL_vi, toPVs_vi, toPVs, toPV, frzV, frzL, frzB, resVV, vi, vb, nilV, sl1, bl1, pi, foldV, max2, min2, max_eq, min_eq, Int.tdiv_eq_ediv_of_nonneg, Int.cast_ofNat_Int, Option.isSome_none, Option.isSome_some, Option.isNone_none, Option.isNone_some, and_false, false_and, sl2, sl1P, slP, min_cast, take_map_pi, map_pi, Nat.sub_zero, Nat.zero_mul, List.length_take, decide_eq_true, decide_eq_false, Bool.true_eq_false, Bool.false_eq_true, beqT, beqF, ibeq, ibne, List.take_zero, List.take_succ_cons, List.drop_zero, List.drop_succ_cons, List.drop_nil, List.take_nil, List.cons_append, Bool.not_true, Bool.not_false, runP, pur, lookB, okPl, okPl1, List.any_cons, List.any_nil, Nat.reduceBEq, Nat.reduceEqDiff, beq_self_eq_true, Bool.or_false, Bool.or_true, Bool.false_or, Bool.true_or, Bool.not_true, Bool.not_false, Bool.and_true, Bool.true_and, Nat.zero_add, Nat.reduceAdd, nos, Pa.eqb, e2, hnm]); rfl))
    refine VPl.stop (by decide) ?_
    refine VO.endA ?_
    (repeat (first | refine VC.seq ?_ | refine VC.block ?_ | refine VC.kill ?_ | refine VC.skip ?_ | refine VC.exit ?_ | refine VC.regA ?_ | refine VC.condT ?_ | refine VC.condF ?_))
    refine VC.condA ?_ ?_ <;> intro h2 <;> (simp only [decide_eq_true_eq, decide_eq_false_iff_not, bne_iff_ne, ne_eq, bne_eq_false_iff_eq, beq_iff_eq, beq_eq_false_iff_ne, Bool.not_eq_true', Bool.not_eq_false', Bool.and_eq_true, Bool.or_eq_true, Int.natCast_inj] at h2)
    · rw [if_pos h2] at i4 i5
      rw [← i4, ← i5, hE1]
      have hfz3 : ∀ a cs, (E1.map fun e => (e.1, frzV a cs e.2)) = E1 := fun a cs => by rw [← hE1]; exact es_frz a cs M1
      have hlo : ((List.replicate L.length (0 : Int)).set s 1).length = L.length := by simp
      rw [show sl1 (pvO L.length (some s)) = .p (.sl 1 L.length (((List.replicate L.length (0 : Int)).set s 1).map pi)) from by unfold pvO sl1; rw [hlo]]
      (repeat (first | refine VC.seq ?_ | refine VC.block ?_ | refine VC.kill ?_ | refine VC.skip ?_ | refine VC.exit ?_ | refine VC.regA ?_ | refine VC.condT ?_ | refine VC.condF ?_))
      refine VC.frzA p11 (hb := rfl) (hc := toPVs_vi _) ?_
      simp only [VSt.frz, PT.map, frzL, frzV, frzB, Option.map_some, Option.map_none, hfz, hfz3, PT.set, PT.filt, VSt.kill, Pa.eqb, cond_true, cond_false, Bool.and_true, Bool.and_false, Bool.false_and, Bool.true_and, frzL_vi]
      (repeat (first | refine VC.seq ?_ | refine VC.block ?_ | refine VC.kill ?_ | refine VC.skip ?_ | refine VC.exit ?_ | refine VC.regA ?_ | refine VC.condT ?_ | refine VC.condF ?_))
      refine VC.ret (Fin.of rfl rfl ?_ rfl rfl ?_)
      · simp [mkB, PT.set, PT.Le, VSt.kill, vi]
      · simp [subs, nm, nmL, nmsB, nmB, es_nm, e2, hnm, nos, Pa.eqb, vi, sl1, nmL_vi]
    · rw [if_neg h2] at i4 i5
      (repeat (first | refine VC.seq ?_ | refine VC.block ?_ | refine VC.kill ?_ | refine VC.skip ?_ | refine VC.exit ?_ | refine VC.regA ?_ | refine VC.condT ?_ | refine VC.condF ?_))
      refine ⟨_, (i + 1, b2, M1), ?_, ⟨rfl, by simp only; omega, hbs, i3', i4, i5⟩, ?_⟩
      · simp only; omega
      · simp only
        (apply Go.Ab.V.G.weak; constructor <;> simp (config := {decide := true}) only [PT.Le, inV, mkB, PT.set, VSt.kill, VSt.adopt, VSt.alloc, PT.filt, PT.map, List.map_cons, List.map_nil, noref, norefB, deadB, deadV, nos, nm, nmL, nmB, nmE, Pa.eqb, cond_true, cond_false, Bool.not_true, Bool.not_false, Bool.and_true, Bool.true_and, nmL_vi, flV_len, flP_len, flV_nm, flV_ok, flV_pv, flP_map, drop_flP, drop_flV, putC_flV, eqV2, eqV3, bneT, bneF, decide_true, decide_false, frzL_vi, frzL_flV, nmE_ag, nmE_at, frzE_ag, frzE_at, ofAg_len, ofAt_len, atL_vi, nmL_map_p, frzL_map_p, okL_p, toPVs_p, repsZ, nmL_reps, putC_vi, get_flV0, get_flV1, Int.toNat_zero, Int.toNat_one, Int.reduceToNat, eqV_slice, eqV_ptr, eqV_func, nilS, nilP, nilF, nmL_append, true_or, or_true, and_self, true_and, and_true, Option.some.injEq, reduceCtorEq, false_or, or_false, VV.p.injEq, PV.at.injEq, Value.int.injEq, sl1, vi, bl1, vb, nilV, sl1, hnm, hE1])
        (all_goals first | rfl | omega | exact ⟨rfl, by omega⟩)
  · have h' : i = L.length := by omega
    have hde := hde h'
    rw [hde] at i4 i5
    rw [← i4, ← i5]
    unfold piv pwM
    have e1 := es_nm M'
    have hfz3 := fun a cs => es_frz a cs M'
    generalize hE0 : esM M' = E0 at *
    rw [show sl1 (pvO L.length none) = .p (.sl 1 L.length ((List.replicate L.length (0 : Int)).map pi)) from by unfold pvO sl1; rw [List.length_replicate]]
    (repeat (first | refine VC.seq ?_ | refine VC.block ?_ | refine VC.kill ?_ | refine VC.skip ?_ | refine VC.exit ?_ | refine VC.regA ?_ | refine VC.condT ?_ | refine VC.condF ?_))
    refine VC.frzA p11 (hb := rfl) (hc := toPVs_vi _) ?_
    simp only [VSt.frz, PT.map, frzL, frzV, frzB, Option.map_some, Option.map_none, hfz, hfz3, PT.set, PT.filt, VSt.kill, Pa.eqb, cond_true, cond_false, Bool.and_true, Bool.and_false, Bool.false_and, Bool.true_and, frzL_vi]
    (repeat (first | refine VC.seq ?_ | refine VC.block ?_ | refine VC.kill ?_ | refine VC.skip ?_ | refine VC.exit ?_ | refine VC.regA ?_ | refine VC.condT ?_ | refine VC.condF ?_))
    refine VC.ret (Fin.of rfl rfl ?_ rfl rfl ?_)
    · simp [mkB, PT.set, PT.Le, VSt.kill, vi]
    · simp [subs, nm, nmL, nmsB, nmB, es_nm, e1, hnm, nos, Pa.eqb, vi, sl1, nmL_vi]
end Go.Ab.Dues

namespace Go.Ab.Dues
open Go.Ab.V
set_option maxRecDepth 100000
def pwMM (c : Can) (lim : Int) (L : List (List Nat)) (M : List (Nat × Int)) : List (Nat × Int) := L.foldl (fun M l => pwM c lim M 0 l) M
set_option maxHeartbeats 8000000 in
theorem averagedP_ok (c : Can) (h : okC c) (lim : Int) (M : List (Nat × Int)) (hM : okM c M) :
    VCall cfg 66 [.op 0 p16 0, .clos 67 [] [.op 0 p150 0, .op 0 p151 0]] [(p16, .cells (flC c (needK c c.ships.length) p14)), (p14, .map (esM M)), (p150, .cells [.op 0 p16 0]), (p151, .cells [vi lim])] [] (slP (frI (avN (pwO c lim) c.ships.length (outs c.ships.length c.ships.length [])))) [(p16, .cells (flC c (needK c c.ships.length) p14)), (p14, .map (esM (pwMM c lim (outs c.ships.length c.ships.length []) M))), (p150, .cells [.op 0 p16 0]), (p151, .cells [vi lim])] := by
  have h7 := h.s7
  have ko := orders_ok c.ships.length
  have hit := orders1_ok c.ships.length (by omega)
  have kb := Power1_ok c h lim
  have hLm := fun x hx => outs_mem (n := c.ships.length) (d := c.ships.length) (l := []) (x := x) (fun s hs => by cases hs) hx
  have hLl := outs_len7 h7
  have hLp := outs_pos h7
  have hbb := pwO_bd c lim
  have hg2 : (flC c (needK c c.ships.length) p14)[2]? = some (sl1 c.ships) := rfl
  have hnm := fl_nm c (needK c c.ships.length) p14
  have hfz := fl_frz c (needK c c.ships.length) p14
  generalize hFL : flC c (needK c c.ships.length) p14 = FL at *
  generalize hL : outs c.ships.length c.ships.length [] = L at *
  refine VCall.mk (fn := a66) rfl rfl rfl ?_
  simp only [a66, inV, mkB, nmsL, PT.set]
  have hs1 : sl1 c.ships = .p (.sl 1 c.ships.length (c.ships.map pi)) := rfl
  rw [hs1] at hg2
  (repeat (first | refine VC.seq ?_ | refine VC.block ?_ | refine VC.kill ?_ | refine VC.skip ?_ | refine VC.exit ?_ | refine VC.regA ?_ | refine VC.condT ?_ | refine VC.condF ?_))
  simp only [hnm, es_nm, nos, Pa.eqb, Bool.not_false, Bool.and_true, cond_true]
  ((try (apply VC.regU; · ((simp (config := {decide := false, maxSteps := 1000000}) (disch := omega) only [vev_call, putC_c0, putC_n0, putC_cs, ble0, List.getElem?_cons_zero, List.getElem?_cons_succ, runU, isCall, wantV, vev, evV, ofVal, ofAtom, atomB, cond_true, cond_false, PT.get, PT.set, PT.filt, PT.map, Option.getD_some, Option.getD_none, ret1V, ret1X, v_ld, v_ias, v_iad, v_fad, v_slsl, v_slarr, v_st, v_app, v_cpy, v_clr, v_len, v_look, v_mset, elsV, partV, newV, free, atV, atI, atL, toVal, cellsV, okV, VSt.put, VSt.kill, VSt.alloc, VSt.frz, VSt.adopt, noref, norefB, deadB, deadV, nos, nm, nmL, nmB, nmE, Pa.eqb, Bool.not_false, Bool.not_true, Bool.and_true, Bool.true_and, Bool.false_and, Bool.and_false, bin, intOps, intBin, cvt, un, goInt, bndsV, bndV, Option.map_some, Option.map_none, List.map_cons, List.map_nil, Int.toNat_natCast, Nat.mul_one, Nat.zero_add, beq_true, beq_false, beq_self_eq_true, List.length_map, List.length_cons, List.length_nil, List.length_append, fillV, pEvV, repsV, List.append_nil, List.nil_append, if_pos, if_neg, reduceIte, List.getElem?_map, List.getElem?_drop, Nat.add_zero, List.getElem?_eq_getElem, Go.IntWalk.i64_in, wrap_u64, tmod_pos, eq_self, true_and, and_true, and_self, List.all_cons, List.all_nil, nmL_vi, flV_len, flP_len, flV_nm, flV_ok, flV_pv, flP_map, drop_flP, drop_flV, putC_flV, eqV2, eqV3, bneT, bneF, decide_true, decide_false, frzL_vi, frzL_flV, nmE_ag, nmE_at, frzE_ag, frzE_at, ofAg_len, ofAt_len, atL_vi, nmL_map_p, frzL_map_p, okL_p, toPVs_p, repsZ, nmL_reps, putC_vi, get_flV0, get_flV1, Int.toNat_zero, Int.toNat_one, Int.reduceToNat, eqV_slice, eqV_ptr, eqV_func, nilS, nilP, nilF, nmL_append, okL_vi, toPVs_vi, toPVs, toPV, frzV, frzL, frzB, resVV, vi, vb, nilV, sl1, bl1, pi, foldV, max2, min2, max_eq, min_eq, Int.tdiv_eq_ediv_of_nonneg, Int.cast_ofNat_Int, Option.isSome_none, Option.isSome_some, Option.isNone_none, Option.isNone_some, and_false, false_and, sl2, sl1P, slP, min_cast, take_map_pi, map_pi, Nat.sub_zero, Nat.zero_mul, List.length_take, decide_eq_true, decide_eq_false, Bool.true_eq_false, Bool.false_eq_true, beqT, beqF, ibeq, ibne, List.take_zero, List.take_succ_cons, List.drop_zero, List.drop_succ_cons, List.drop_nil, List.take_nil, List.cons_append, Bool.not_true, Bool.not_false, hg2]); rfl))); (repeat (first | refine VC.seq ?_ | refine VC.block ?_ | refine VC.kill ?_ | refine VC.skip ?_ | refine VC.exit ?_ | refine VC.regA ?_ | refine VC.condT ?_ | refine VC.condF ?_)))
  simp only [hnm, es_nm, nos, Pa.eqb, Bool.not_false, Bool.and_true, cond_true]
  (refine VC.regCA ?_; refine VO.moreA ?_; refine VO.call0A (no_orc _ (by decide)) ko ?_; refine VO.endA ?_; (repeat (first | refine VC.seq ?_ | refine VC.block ?_ | refine VC.kill ?_ | refine VC.skip ?_ | refine VC.exit ?_ | refine VC.regA ?_ | refine VC.condT ?_ | refine VC.condF ?_)))
  (simp only [List.nil_append, List.append_nil, VSt.kill, VSt.osob, VSt.adoptB, VSt.adopt, VSt.alloc, PT.filt, norefB, deadB, deadV, PT.map, Option.map_some, Option.map_none, List.map_cons, List.map_nil, noref, nos, nm, nmL, nmB, nmE, Pa.eqb, PT.set, mkB, inV, cond_true, cond_false, Bool.and_true, Bool.not_false, Bool.not_true, List.set_cons_zero, List.set_cons_succ])
  have hits : ∀ i (hlt : i < (itms L).length), (itms L)[i] = itm (L[i]'(by simpa [itms] using hlt)) := fun i hlt => by simp [itms]
  have hNB : ∀ it ∈ itms L, ∀ a ∈ nmsL it.2, a = p40 := fun it hit a ha => by
    obtain ⟨l, _, rfl⟩ := List.mem_map.1 hit
    simpa [itm, nmsL] using ha
  refine VC.rangeF (fun (q : Nat × List Int × List (Nat × Int)) => mkB [(p3, .cells [.clos 67 [] [.op 0 p150 0, .op 0 p151 0]]), (p6, .cells [.os 1 p21 c.ships.length]), (p7, .cells [vi q.1]), (p21, .cells (q.2.1.map vi)), (p16, .cells FL), (p14, .map (esM q.2.2)), (p150, .cells [.op 0 p16 0]), (p151, .cells [vi lim])] .lf) (fun _ => none)
    (fun i q => q.1 = i ∧ q.2.1 = avS (pwO c lim) c.ships.length (L.take i) ∧ okM c q.2.2 ∧ q.2.2 = pwMM c lim (L.take i) M) (x0 := (0, List.replicate c.ships.length 0, M)) [p3, p6, p7, p21, p16, p14, p150, p151] rfl rfl (no_orc 85 (by decide)) hit
    (fun _ _ hp => NmOk.get (N := [p3, p6, p7, p21, p16, p14, p150, p151]) ?_ hp) (subs_spec (l := [p16, p14, p150, p151]) (m := [p3, p6, p7, p21, p16, p14, p150, p151]) rfl) (fun _ _ _ a ha => mkB_some (t := .lf) ha) ?_ ⟨rfl, rfl, hM, rfl⟩ ?_ (fun i x hlt _ => by rw [hits]; rfl) (fun i x hlt _ => by rw [hits]; rfl) (fun it hit a ha => by rw [hNB it hit a ha]; decide) ?_ ?_
  · simp [NmOk, nm, nmL]
  · simp [mkB, PT.set, PT.Le, vi]
  · intro x hx
    obtain ⟨l, _, rfl⟩ := List.mem_map.1 hx
    rfl
  · rintro i ⟨q1, q2, q3⟩ hlt ⟨h1, h2, h3, h4⟩
    simp only at h1 h2 h3 h4
    rw [hits i hlt]
    have hlt' : i < L.length := by simpa [itms] using hlt
    have hlm := hLm _ (List.getElem_mem hlt')
    have kl := kb q3 h3 L[i] (by rw [hlm.1]; simp) hlm.2
    have hgl : (pwO c lim L[i]).length = c.ships.length := by rw [pwO_len, hlm.1]; simp
    have hq2 : q2.length = c.ships.length := by
      rw [h2]; exact avS_len fun l hl => by rw [pwO_len, (hLm l (List.mem_of_mem_take hl)).1]; simp
    have hqb : ∀ x ∈ q2, 0 ≤ x ∧ x ≤ 8235430000 := fun x hx => by
      rw [h2] at hx
      have := avS_bd (B := 10000) (fun l _ => hbb l) x hx
      rw [List.length_take] at this
      omega
    have hxb := hbb L[i]
    have hsn := avS_snoc (pwO c lim) c.ships.length L i hlt'
    have hbm : pwMM c lim (L.take (i + 1)) M = pwM c lim (pwMM c lim (L.take i) M) 0 L[i] := by
      unfold pwMM
      rw [List.take_add_one, List.getElem?_eq_getElem hlt', Option.toList_some, List.foldl_append]; rfl
    have hok : okM c (pwM c lim q3 0 L[i]) := pwM_okM lim L[i] 0 h3
    have hll : L[i].length = c.ships.length := by rw [hlm.1]; simp
    rw [← h4] at hbm
    rw [← h2] at hsn
    rw [hll] at kl
    generalize (pwM c lim q3 0 L[i]) = q3' at *
    generalize pwO c lim L[i] = X at *
    simp only [itm, mkB, nmsL, filtNB, PT.set, PT.filt, norefB, nmB, nmL_vi, hnm, es_nm, nm, nmL, nos, Pa.eqb, Bool.not_false, Bool.and_true, cond_true, inV, List.cons_append, List.nil_append, vi, hll]
    (repeat (first | refine VC.seq ?_ | refine VC.block ?_ | refine VC.kill ?_ | refine VC.skip ?_ | refine VC.exit ?_ | refine VC.regA ?_ | refine VC.condT ?_ | refine VC.condF ?_))
    refine VC.regCA ?_
    refine VO.moreA ?_
    refine VO.call [] [(p16, .cells FL), (p14, .map (esM q3)), (p150, .cells [.op 0 p16 0]), (p151, .cells [vi lim]), (p40, .cells ((natI L[i]).map vi))] (mkB [(p3, .cells [.clos 67 [] [.op 0 p150 0, .op 0 p151 0]]), (p6, .cells [.os 1 p21 c.ships.length]), (p7, .cells [vi ((q1 : Int) + 1)]), (p21, .cells (q2.map vi))] .lf) rfl rfl (no_orc 67 (by decide)) kl trivial ?_ ?_ rfl rfl rfl rfl rfl rfl rfl ?_
    · simp [mkB, PT.set, PT.Le, VSt.kill, vi]
    · simp [mkB, PT.set, PT.Le, VSt.kill, vi]
    (simp only [filtN, filtNB, mkB, PT.set, VSt.put, PT.filt, noref, norefB, nos, nm, nmL, nmB, nmL_vi, nmL_map_p, nmE_ag, flV_nm, List.nil_append, List.append_nil, Pa.eqb, cond_true, cond_false, Bool.and_true, Bool.not_false, Bool.not_true])
    have hql : q2.length = X.length := by omega
    have hT0 : addT q2 X 0 = q2 := by simp [addT]
    have hTl := addT_len hql
    have hTg := fun {s} => addT_get hql (s := s)
    have hTs := fun {s} => addT_set hql (s := s)
    have hTe := addT_end hql
    refine VO.endA ?_
    (repeat (first | refine VC.seq ?_ | refine VC.block ?_ | refine VC.kill ?_ | refine VC.skip ?_ | refine VC.exit ?_ | refine VC.regA ?_ | refine VC.condT ?_ | refine VC.condF ?_))
    refine VC.loopG (fun (s : Nat) => ⟨inV [p6, p29, p30, p31] [.op 0 p6 0, sl1 X, vi X.length, vi s] .lf, mkB [(p3, .cells [.clos 67 [] [.op 0 p150 0, .op 0 p151 0]]), (p6, .cells [.os 1 p21 c.ships.length]), (p7, .cells [vi ((q1 : Int) + 1)]), (p21, .cells ((addT q2 X s).map vi)), (p16, .cells FL), (p14, .map (esM q3')), (p150, .cells [.op 0 p16 0]), (p151, .cells [vi lim]), (p40, .cells ((natI L[i]).map vi))] .lf, [p3, p6, p7, p21, p16, p14, p150, p151, p40], none⟩) (fun k s => k = X.length - s ∧ s ≤ X.length) (x := 0) ?_ ⟨rfl, Nat.zero_le _⟩ ?_
    · rw [hT0]
      (apply Go.Ab.V.G.weak; constructor <;> simp (config := {decide := true}) only [PT.Le, inV, mkB, PT.set, VSt.kill, VSt.adopt, VSt.alloc, PT.filt, PT.map, List.map_cons, List.map_nil, noref, norefB, deadB, deadV, nos, nm, nmL, nmB, nmE, Pa.eqb, cond_true, cond_false, Bool.not_true, Bool.not_false, Bool.and_true, Bool.true_and, nmL_vi, flV_len, flP_len, flV_nm, flV_ok, flV_pv, flP_map, drop_flP, drop_flV, putC_flV, eqV2, eqV3, bneT, bneF, decide_true, decide_false, frzL_vi, frzL_flV, nmE_ag, nmE_at, frzE_ag, frzE_at, ofAg_len, ofAt_len, atL_vi, nmL_map_p, frzL_map_p, okL_p, toPVs_p, repsZ, nmL_reps, putC_vi, get_flV0, get_flV1, Int.toNat_zero, Int.toNat_one, Int.reduceToNat, eqV_slice, eqV_ptr, eqV_func, nilS, nilP, nilF, nmL_append, true_or, or_true, and_self, true_and, and_true, Option.some.injEq, reduceCtorEq, false_or, or_false, VV.p.injEq, PV.at.injEq, Value.int.injEq, sl1, vi, bl1, vb, nilV, sl1, vi])
      (all_goals first | rfl | omega | exact ⟨rfl, by omega⟩)
    rintro k s ⟨hk, hs⟩
    simp only [inV, PT.set, mkB]
    (repeat (first | refine VC.seq ?_ | refine VC.block ?_ | refine VC.kill ?_ | refine VC.skip ?_ | refine VC.exit ?_ | refine VC.regA ?_ | refine VC.condT ?_ | refine VC.condF ?_))
    have hTl := hTl s
    refine VC.condA ?_ ?_ <;> intro h' <;> (simp only [decide_eq_true_eq, decide_eq_false_iff_not, bne_iff_ne, ne_eq, bne_eq_false_iff_eq, beq_iff_eq, beq_eq_false_iff_ne, Bool.not_eq_true', Bool.not_eq_false', Bool.and_eq_true, Bool.or_eq_true, Int.natCast_inj] at h')
    · have h' : s < X.length := by omega
      have hs2 : s < q2.length := by rw [hql]; exact h'
      have hTg := hTg (s := s) hs2
      have hTs := hTs (s := s) hs2
      have hq := hqb _ (List.getElem_mem hs2)
      have hx := hxb _ (List.getElem_mem h')
      generalize addT q2 X s = Y at *
      have hYl : s < Y.length := by omega
      have hYs : Y[s] = q2[s]'hs2 := by
        rw [List.getElem?_eq_getElem hYl] at hTg
        exact Option.some.inj hTg
      rw [← hYs] at hTs hq
      clear hTg hTe hT0
      (repeat (first | refine VC.seq ?_ | refine VC.block ?_ | refine VC.kill ?_ | refine VC.skip ?_ | refine VC.exit ?_ | refine VC.regA ?_ | refine VC.condT ?_ | refine VC.condF ?_))
      refine ⟨_, s + 1, ?_, ⟨rfl, by omega⟩, ?_⟩
      · omega
      · rw [← hTs]
        (apply Go.Ab.V.G.weak; constructor <;> simp (config := {decide := true}) only [PT.Le, inV, mkB, PT.set, VSt.kill, VSt.adopt, VSt.alloc, PT.filt, PT.map, List.map_cons, List.map_nil, noref, norefB, deadB, deadV, nos, nm, nmL, nmB, nmE, Pa.eqb, cond_true, cond_false, Bool.not_true, Bool.not_false, Bool.and_true, Bool.true_and, nmL_vi, flV_len, flP_len, flV_nm, flV_ok, flV_pv, flP_map, drop_flP, drop_flV, putC_flV, eqV2, eqV3, bneT, bneF, decide_true, decide_false, frzL_vi, frzL_flV, nmE_ag, nmE_at, frzE_ag, frzE_at, ofAg_len, ofAt_len, atL_vi, nmL_map_p, frzL_map_p, okL_p, toPVs_p, repsZ, nmL_reps, putC_vi, get_flV0, get_flV1, Int.toNat_zero, Int.toNat_one, Int.reduceToNat, eqV_slice, eqV_ptr, eqV_func, nilS, nilP, nilF, nmL_append, true_or, or_true, and_self, true_and, and_true, Option.some.injEq, reduceCtorEq, false_or, or_false, VV.p.injEq, PV.at.injEq, Value.int.injEq, sl1, vi, bl1, vb, nilV, sl1, vi])
        (all_goals first | rfl | omega | exact ⟨rfl, by omega⟩)
    · have h' : s = q2.length := by omega
      have hE : addT q2 X s = avS (pwO c lim) c.ships.length (L.take (i + 1)) := by rw [h', hTe, hsn]
      rw [hE]
      (repeat (first | refine VC.seq ?_ | refine VC.block ?_ | refine VC.kill ?_ | refine VC.skip ?_ | refine VC.exit ?_ | refine VC.regA ?_ | refine VC.condT ?_ | refine VC.condF ?_))
      refine ⟨(fun h => nomatch h), (q1 + 1, avS (pwO c lim) c.ships.length (L.take (i + 1)), q3'), ⟨by simp only; omega, rfl, hok, hbm.symm⟩, ?_⟩
      have hc1 : ((q1 + 1 : Nat) : Int) = (q1 : Int) + 1 := by omega
      simp only [hc1]
      (apply Go.Ab.V.G.weak; constructor <;> simp (config := {decide := true}) only [PT.Le, inV, mkB, PT.set, VSt.kill, VSt.adopt, VSt.alloc, PT.filt, PT.map, List.map_cons, List.map_nil, noref, norefB, deadB, deadV, nos, nm, nmL, nmB, nmE, Pa.eqb, cond_true, cond_false, Bool.not_true, Bool.not_false, Bool.and_true, Bool.true_and, nmL_vi, flV_len, flP_len, flV_nm, flV_ok, flV_pv, flP_map, drop_flP, drop_flV, putC_flV, eqV2, eqV3, bneT, bneF, decide_true, decide_false, frzL_vi, frzL_flV, nmE_ag, nmE_at, frzE_ag, frzE_at, ofAg_len, ofAt_len, atL_vi, nmL_map_p, frzL_map_p, okL_p, toPVs_p, repsZ, nmL_reps, putC_vi, get_flV0, get_flV1, Int.toNat_zero, Int.toNat_one, Int.reduceToNat, eqV_slice, eqV_ptr, eqV_func, nilS, nilP, nilF, nmL_append, true_or, or_true, and_self, true_and, and_true, Option.some.injEq, reduceCtorEq, false_or, or_false, VV.p.injEq, PV.at.injEq, Value.int.injEq, sl1, vi, bl1, vb, nilV, sl1, vi, nmsL])
      (all_goals first | rfl | omega | exact ⟨rfl, by omega⟩)
  · rintro _ ⟨q1, q2, q3⟩ ⟨h1, h2, h3, h4⟩
    simp only at h1 h2 h3 h4
    have hil : (itms L).length = L.length := by simp [itms]
    rw [hil] at h1 h2 h4
    rw [List.take_length] at h2 h4
    have hq2 : q2.length = c.ships.length := by
      rw [h2]; exact avS_len fun l hl => by rw [pwO_len, (hLm l hl).1]; simp
    have hqb : ∀ x ∈ q2, 0 ≤ x ∧ x ≤ 8235430000 := fun x hx => by
      rw [h2] at hx
      have := avS_bd (B := 10000) (fun l _ => hbb l) x hx
      omega
    have hL0 : 0 < L.length := hLp
    obtain ⟨W, hW⟩ : ∃ W, W = frI (avN (pwO c lim) c.ships.length L) := ⟨_, rfl⟩
    have hWl : W.length = q2.length := by rw [hW]; simp [frI, avN, h2]
    have hWg : ∀ i (hi : i < W.length) (hi2 : i < q2.length), W[i] = (((nrm q2[i].toNat L.length).1 : Int), ((nrm q2[i].toNat L.length).2 : Int)) := fun i hi hi2 => by
      subst hW h2
      simp [frI, avN]
    rw [← hW, ← h4]
    subst h1
    clear hW h2 h4 hLm hbb kb hit hits hNB
    simp only [mkB, PT.set, vi]
    (repeat (first | refine VC.seq ?_ | refine VC.block ?_ | refine VC.kill ?_ | refine VC.skip ?_ | refine VC.exit ?_ | refine VC.regA ?_ | refine VC.condT ?_ | refine VC.condF ?_))
    have hm3 := es_nm q3
    have hz3 := fun a cs => es_frz a cs q3
    generalize esM q3 = E3 at *
    refine VC.loopG (fun (i : Nat) => ⟨inV [p7, p11, p44, p45, p46] [.op 0 p7 0, .os 2 p19 i, .os 1 p21 c.ships.length, vi c.ships.length, vi i] .lf, mkB [(p7, .cells [vi L.length]), (p21, .cells (q2.map vi)), (p16, .cells FL), (p14, .map E3), (p150, .cells [.op 0 p16 0]), (p151, .cells [vi lim]), (p19, .cells (flV (W.take i)))] .lf, [p16, p14, p150, p151], none⟩) (fun k i => k = c.ships.length - i ∧ i ≤ c.ships.length) (x := 0) ?_ ⟨rfl, Nat.zero_le _⟩ ?_
    · refine G.adoptA (p := p11) 2 p19 ?_
      (apply Go.Ab.V.G.weak; constructor <;> simp (config := {decide := true}) only [PT.Le, inV, mkB, PT.set, VSt.kill, VSt.adopt, VSt.alloc, PT.filt, PT.map, List.map_cons, List.map_nil, noref, norefB, deadB, deadV, nos, nm, nmL, nmB, nmE, Pa.eqb, cond_true, cond_false, Bool.not_true, Bool.not_false, Bool.and_true, Bool.true_and, nmL_vi, flV_len, flP_len, flV_nm, flV_ok, flV_pv, flP_map, drop_flP, drop_flV, putC_flV, eqV2, eqV3, bneT, bneF, decide_true, decide_false, frzL_vi, frzL_flV, nmE_ag, nmE_at, frzE_ag, frzE_at, ofAg_len, ofAt_len, atL_vi, nmL_map_p, frzL_map_p, okL_p, toPVs_p, repsZ, nmL_reps, putC_vi, get_flV0, get_flV1, Int.toNat_zero, Int.toNat_one, Int.reduceToNat, eqV_slice, eqV_ptr, eqV_func, nilS, nilP, nilF, nmL_append, true_or, or_true, and_self, true_and, and_true, Option.some.injEq, reduceCtorEq, false_or, or_false, VV.p.injEq, PV.at.injEq, Value.int.injEq, sl1, vi, bl1, vb, nilV, vi, hnm, hm3, List.take_zero, flV])
      exact ⟨⟨⟨rfl, rfl⟩, rfl⟩, rfl⟩
    rintro k i ⟨hk, hi⟩
    simp only [inV, PT.set, mkB]
    have hll : (flV (W.take i)).length = i * 2 := by rw [flV_len, List.length_take]; omega
    have hn2 := flV_nm (W.take i)
    have htk : ∀ h : i < W.length, flV (W.take (i + 1)) = flV (W.take i) ++ [vi W[i].1, vi W[i].2] := fun h => by rw [List.take_add_one, List.getElem?_eq_getElem h]; exact flV_snoc _ _ _
    have hfz2 : i = W.length → flV (W.take i) = flV W := fun e => by rw [e, List.take_length]
    generalize flV (W.take i) = Z at *
    (repeat (first | refine VC.seq ?_ | refine VC.block ?_ | refine VC.kill ?_ | refine VC.skip ?_ | refine VC.exit ?_ | refine VC.regA ?_ | refine VC.condT ?_ | refine VC.condF ?_))
    refine VC.condA ?_ ?_ <;> intro h' <;> (simp only [decide_eq_true_eq, decide_eq_false_iff_not, bne_iff_ne, ne_eq, bne_eq_false_iff_eq, beq_iff_eq, beq_eq_false_iff_ne, Bool.not_eq_true', Bool.not_eq_false', Bool.and_eq_true, Bool.or_eq_true, Int.natCast_inj] at h')
    · have h' : i < c.ships.length := by omega
      have hi2 : i < q2.length := by rw [hq2]; exact h'
      have hi3 : i < W.length := by rw [hWl]; exact hi2
      have htk := htk hi3
      have hb := hqb _ (List.getElem_mem hi2)
      have k1 := lowest_ok q2[i].toNat L.length (by omega) (by omega) hL0
      rw [Int.toNat_of_nonneg hb.1] at k1
      rw [hWg i hi3 hi2] at htk
      (repeat (first | refine VC.seq ?_ | refine VC.block ?_ | refine VC.kill ?_ | refine VC.skip ?_ | refine VC.exit ?_ | refine VC.regA ?_ | refine VC.condT ?_ | refine VC.condF ?_))
      refine VC.regCA ?_
      refine VO.moreA ?_
      refine VO.call0A (no_orc 78 (by decide)) k1 ?_
      apply VO.upto
      · (simp (config := {decide := false, maxSteps := 1000000}) (disch := omega) only [vev_call, putC_c0, putC_n0, putC_cs, ble0, List.getElem?_cons_zero, List.getElem?_cons_succ, runU, isCall, wantV, vev, evV, ofVal, ofAtom, atomB, cond_true, cond_false, PT.get, PT.set, PT.filt, PT.map, Option.getD_some, Option.getD_none, ret1V, ret1X, v_ld, v_ias, v_iad, v_fad, v_slsl, v_slarr, v_st, v_app, v_cpy, v_clr, v_len, v_look, v_mset, elsV, partV, newV, free, atV, atI, atL, toVal, cellsV, okV, VSt.put, VSt.kill, VSt.alloc, VSt.frz, VSt.adopt, noref, norefB, deadB, deadV, nos, nm, nmL, nmB, nmE, Pa.eqb, Bool.not_false, Bool.not_true, Bool.and_true, Bool.true_and, Bool.false_and, Bool.and_false, bin, intOps, intBin, cvt, un, goInt, bndsV, bndV, Option.map_some, Option.map_none, List.map_cons, List.map_nil, Int.toNat_natCast, Nat.mul_one, Nat.zero_add, beq_true, beq_false, beq_self_eq_true, List.length_map, List.length_cons, List.length_nil, List.length_append, fillV, pEvV, repsV, List.append_nil, List.nil_append, if_pos, if_neg, reduceIte, List.getElem?_map, List.getElem?_drop, Nat.add_zero, List.getElem?_eq_getElem, Go.IntWalk.i64_in, wrap_u64, tmod_pos, eq_self, true_and, and_true, and_self, List.all_cons, List.all_nil, nmL_vi, flV_len, flP_len, flV_nm, flV_ok, flV_pv, flP_map, drop_flP, drop_flV, putC_flV, eqV2, eqV3, bneT, bneF, decide_true, decide_false, frzL_vi, frzL_flV, nmE_ag, nmE_at, frzE_ag, frzE_at, ofAg_len, ofAt_len, atL_vi, nmL_map_p, frzL_map_p, okL_p, toPVs_p, repsZ, nmL_reps, putC_vi, get_flV0, get_flV1, Int.toNat_zero, Int.toNat_one, Int.reduceToNat, eqV_slice, eqV_ptr, eqV_func, nilS, nilP, nilF, nmL_append, okL_vi, toPVs_vi, toPVs, toPV, frzV, frzL, frzB, resVV, vi, vb, nilV, sl1, bl1, pi, foldV, max2, min2, max_eq, min_eq, Int.tdiv_eq_ediv_of_nonneg, Int.cast_ofNat_Int, Option.isSome_none, Option.isSome_some, Option.isNone_none, Option.isNone_some, and_false, false_and, sl2, sl1P, slP, min_cast, take_map_pi, map_pi, Nat.sub_zero, Nat.zero_mul, List.length_take, decide_eq_true, decide_eq_false, Bool.true_eq_false, Bool.false_eq_true, beqT, beqF, ibeq, ibne, List.take_zero, List.take_succ_cons, List.drop_zero, List.drop_succ_cons, List.drop_nil, List.take_nil, List.cons_append, Bool.not_true, Bool.not_false, hll, hn2])
        rfl
      refine VO.nil ?_
      (repeat (first | refine VC.seq ?_ | refine VC.block ?_ | refine VC.kill ?_ | refine VC.skip ?_ | refine VC.exit ?_ | refine VC.regA ?_ | refine VC.condT ?_ | refine VC.condF ?_))
      refine ⟨_, i + 1, ?_, ⟨rfl, by omega⟩, ?_⟩
      · omega
      · (apply Go.Ab.V.G.weak; constructor <;> simp (config := {decide := true}) only [PT.Le, inV, mkB, PT.set, VSt.kill, VSt.adopt, VSt.alloc, PT.filt, PT.map, List.map_cons, List.map_nil, noref, norefB, deadB, deadV, nos, nm, nmL, nmB, nmE, Pa.eqb, cond_true, cond_false, Bool.not_true, Bool.not_false, Bool.and_true, Bool.true_and, nmL_vi, flV_len, flP_len, flV_nm, flV_ok, flV_pv, flP_map, drop_flP, drop_flV, putC_flV, eqV2, eqV3, bneT, bneF, decide_true, decide_false, frzL_vi, frzL_flV, nmE_ag, nmE_at, frzE_ag, frzE_at, ofAg_len, ofAt_len, atL_vi, nmL_map_p, frzL_map_p, okL_p, toPVs_p, repsZ, nmL_reps, putC_vi, get_flV0, get_flV1, Int.toNat_zero, Int.toNat_one, Int.reduceToNat, eqV_slice, eqV_ptr, eqV_func, nilS, nilP, nilF, nmL_append, true_or, or_true, and_self, true_and, and_true, Option.some.injEq, reduceCtorEq, false_or, or_false, VV.p.injEq, PV.at.injEq, Value.int.injEq, sl1, vi, bl1, vb, nilV, htk, vi, hnm, hm3])
        (all_goals first | rfl | omega | exact ⟨rfl, by omega⟩)
    · have h' : i = W.length := by omega
      have hz := hfz2 h'
      have kl := list_ok W (by omega)
      rw [hz]
      subst h'
      refine VC.frzA p19 (hb := rfl) (hc := flV_pv W) ?_
      simp only [VSt.frz, PT.map, frzL, frzV, frzB, Option.map_some, Option.map_none, hfz, hz3, PT.set, PT.filt, VSt.kill, Pa.eqb, cond_true, cond_false, Bool.and_true, Bool.and_false, Bool.false_and, Bool.true_and, frzL_vi]
      (repeat (first | refine VC.seq ?_ | refine VC.block ?_ | refine VC.kill ?_ | refine VC.skip ?_ | refine VC.exit ?_ | refine VC.regA ?_ | refine VC.condT ?_ | refine VC.condF ?_))
      have esl : slP W = .p (.sl 2 W.length (flP W)) := rfl
      rw [esl] at kl ⊢
      refine VC.regCA ?_
      refine VO.moreA ?_
      refine VO.call0A (no_orc 56 (by decide)) kl ?_
      refine VO.endA ?_
      (repeat (first | refine VC.seq ?_ | refine VC.block ?_ | refine VC.kill ?_ | refine VC.skip ?_ | refine VC.exit ?_ | refine VC.regA ?_ | refine VC.condT ?_ | refine VC.condF ?_))
      refine VC.ret (Fin.of rfl rfl ?_ rfl rfl ?_)
      · simp [mkB, PT.set, PT.Le, VSt.kill, vi]
      · simp [subs, nm, nmL, nmsB, nmB, hm3, hnm, nos, Pa.eqb, vi]
end Go.Ab.Dues

namespace Go.Ab.Dues
open Go.Ab.V
set_option maxRecDepth 100000
def powN (c : Can) (lim : Int) : List (Nat × Nat) := avN (pwO c lim) c.ships.length (outs c.ships.length c.ships.length [])
set_option maxHeartbeats 4000000 in
theorem Power_ok (c : Can) (h : okC c) (lim : Int) (h0 : 0 ≤ lim) (h1 : lim ≤ 10000) : VCall cfg 28 [canV c, vi lim] [] [] (.tup [slP (frI (powN c lim)), vi 0]) [] := by
  have k1 := open_ok c h
  have k2 := averagedP_ok c h lim [] (fun q hq => by cases hq)
  have he : esM [] = [] := rfl
  rw [he] at k2
  have hnm := fl_nm c (needK c c.ships.length) p14
  have hfz := fl_frz c (needK c c.ships.length) p14
  have hr1 : renL p6 p150 (flC c (needK c c.ships.length) p14) = flC c (needK c c.ships.length) p14 := renL_id (by rw [hnm]; decide)
  have hr2 : renL p3 p151 (flC c (needK c c.ships.length) p14) = flC c (needK c c.ships.length) p14 := renL_id (by rw [hnm]; decide)
  generalize flC c (needK c c.ships.length) p14 = FL at *
  unfold canV at k1 ⊢
  (refine VCall.mk (fn := a28) rfl rfl rfl ?_; simp only [a28, inV, mkB, nmsL, PT.set])
  (repeat (first | refine VC.seq ?_ | refine VC.block ?_ | refine VC.kill ?_ | refine VC.skip ?_ | refine VC.exit ?_ | refine VC.regA ?_ | refine VC.condT ?_ | refine VC.condF ?_))
  refine VC.regCA ?_
  refine VO.moreA ?_
  refine VO.callN (no_orc 52 (by decide)) k1 rfl rfl rfl rfl rfl rfl ?_
  (simp only [filtN, filtNB, mkB, PT.set, VSt.put, PT.filt, noref, norefB, nos, nm, nmL, nmB, nmL_vi, nmL_map_p, nmE_ag, flV_nm, List.nil_append, List.append_nil, Pa.eqb, cond_true, cond_false, Bool.and_true, Bool.not_false, Bool.not_true])
  refine VO.endA ?_
  (repeat (first | refine VC.seq ?_ | refine VC.block ?_ | refine VC.kill ?_ | refine VC.skip ?_ | refine VC.exit ?_ | refine VC.regA ?_ | refine VC.condT ?_ | refine VC.condF ?_))
  have d1 : decide (lim < 0) = false := decide_eq_false (by omega)
  have d2 : decide (lim > 10000) = false := decide_eq_false (by omega)
  ((try (apply VC.regU; · ((simp (config := {decide := false, maxSteps := 1000000}) (disch := omega) only [vev_call, putC_c0, putC_n0, putC_cs, ble0, List.getElem?_cons_zero, List.getElem?_cons_succ, runU, isCall, wantV, vev, evV, ofVal, ofAtom, atomB, cond_true, cond_false, PT.get, PT.set, PT.filt, PT.map, Option.getD_some, Option.getD_none, ret1V, ret1X, v_ld, v_ias, v_iad, v_fad, v_slsl, v_slarr, v_st, v_app, v_cpy, v_clr, v_len, v_look, v_mset, elsV, partV, newV, free, atV, atI, atL, toVal, cellsV, okV, VSt.put, VSt.kill, VSt.alloc, VSt.frz, VSt.adopt, noref, norefB, deadB, deadV, nos, nm, nmL, nmB, nmE, Pa.eqb, Bool.not_false, Bool.not_true, Bool.and_true, Bool.true_and, Bool.false_and, Bool.and_false, bin, intOps, intBin, cvt, un, goInt, bndsV, bndV, Option.map_some, Option.map_none, List.map_cons, List.map_nil, Int.toNat_natCast, Nat.mul_one, Nat.zero_add, beq_true, beq_false, beq_self_eq_true, List.length_map, List.length_cons, List.length_nil, List.length_append, fillV, pEvV, repsV, List.append_nil, List.nil_append, if_pos, if_neg, reduceIte, List.getElem?_map, List.getElem?_drop, Nat.add_zero, List.getElem?_eq_getElem, Go.IntWalk.i64_in, wrap_u64, tmod_pos, eq_self, true_and, and_true, and_self, List.all_cons, List.all_nil, nmL_vi, flV_len, flP_len, flV_nm, flV_ok, flV_pv, flP_map, drop_flP, drop_flV, putC_flV, eqV2, eqV3, bneT, bneF, decide_true, decide_false, frzL_vi, frzL_flV, nmE_ag, nmE_at, frzE_ag, frzE_at, ofAg_len, ofAt_len, atL_vi, nmL_map_p, frzL_map_p, okL_p, toPVs_p, repsZ, nmL_reps, putC_vi, get_flV0, get_flV1, Int.toNat_zero, Int.toNat_one, Int.reduceToNat, eqV_slice, eqV_ptr, eqV_func, nilS, nilP, nilF, nmL_append, okL_vi, toPVs_vi, toPVs, toPV, frzV, frzL, frzB, resVV, vi, vb, nilV, sl1, bl1, pi, foldV, max2, min2, max_eq, min_eq, Int.tdiv_eq_ediv_of_nonneg, Int.cast_ofNat_Int, Option.isSome_none, Option.isSome_some, Option.isNone_none, Option.isNone_some, and_false, false_and, sl2, sl1P, slP, min_cast, take_map_pi, map_pi, Nat.sub_zero, Nat.zero_mul, List.length_take, decide_eq_true, decide_eq_false, Bool.true_eq_false, Bool.false_eq_true, beqT, beqF, ibeq, ibne, List.take_zero, List.take_succ_cons, List.drop_zero, List.drop_succ_cons, List.drop_nil, List.take_nil, List.cons_append, Bool.not_true, Bool.not_false, d1, d2]); rfl))); (repeat (first | refine VC.seq ?_ | refine VC.block ?_ | refine VC.kill ?_ | refine VC.skip ?_ | refine VC.exit ?_ | refine VC.regA ?_ | refine VC.condT ?_ | refine VC.condF ?_)))
  simp only [VSt.kill, PT.set, hnm, nos, Pa.eqb, Bool.not_false, Bool.and_true, cond_true]
  refine VC.ghost (G.ren p6 p150 rfl rfl rfl rfl G.refl) ?_
  simp only [VSt.ren, PT.map, PT.filt, PT.set, noref, norefB, deadB, nm, nmL, nmB, nmE, hnm, nos, Pa.eqb, renV, renL, renB, rnP, hr1, hr2, List.map_nil, Option.map_some, Option.map_none, Bool.not_false, Bool.not_true, Bool.and_true, Bool.and_false, cond_true, cond_false, List.append_nil, List.nil_append]
  refine VC.ghost (G.ren p3 p151 rfl rfl rfl rfl G.refl) ?_
  simp only [VSt.ren, PT.map, PT.filt, PT.set, noref, norefB, deadB, nm, nmL, nmB, nmE, hnm, nos, Pa.eqb, renV, renL, renB, rnP, hr1, hr2, List.map_nil, Option.map_some, Option.map_none, Bool.not_false, Bool.not_true, Bool.and_true, Bool.and_false, cond_true, cond_false, List.append_nil, List.nil_append]
  refine VC.regCA ?_
  refine VO.moreA ?_
  refine VO.call [] [(p16, .cells FL), (p14, .map []), (p150, .cells [.op 0 p16 0]), (p151, .cells [vi lim])] .lf rfl rfl (no_orc 66 (by decide)) k2 trivial ?_ ?_ rfl rfl rfl rfl rfl rfl rfl ?_
  · simp [mkB, PT.set, PT.Le, VSt.kill, vi]
  · trivial
  (simp only [filtN, filtNB, mkB, PT.set, VSt.put, PT.filt, noref, norefB, nos, nm, nmL, nmB, nmL_vi, nmL_map_p, nmE_ag, flV_nm, List.nil_append, List.append_nil, Pa.eqb, cond_true, cond_false, Bool.and_true, Bool.not_false, Bool.not_true])
  refine VO.endA ?_
  (repeat (first | refine VC.seq ?_ | refine VC.block ?_ | refine VC.kill ?_ | refine VC.skip ?_ | refine VC.exit ?_ | refine VC.regA ?_ | refine VC.condT ?_ | refine VC.condF ?_))
  exact VC.ret (Fin.A rfl)
end Go.Ab.Dues

namespace Go.Ab.Dues
open Go.Ab.V
set_option maxRecDepth 100000
theorem VCall.resW {C : Cfg} {f : Nat} {args : List VV} {B B' : List (Pa × VB)} {N : List Pa} {y y' : VV} (hc : VCall C f args B N y B') (hy : ∀ rd ids v, Vr rd ids v y → Vr rd ids v y') : VCall C f args B N y' B' := by
  intro h ids F vals hg t r
  exact (hc h ids F vals hg t r).mono fun v h' ⟨ids', F', t', rv, hids⟩ => ⟨ids', F', t', hy _ _ _ rv, hids⟩
theorem encP_rp {rd : Addr → List Value → Prop} {v : Value} {l : List Nat} (r : Rp rd v (encP l)) : Rp rd v (sl1P (natI l)) := by
  unfold encP at r
  unfold sl1P
  split at r
  · rename_i e
    subst e
    cases r
    exact .nil
  · rw [natI_len]; exact r
theorem ordV_sl2 {rd : Addr → List Value → Prop} {ids : Pa → Option Nat} {v : Value} {L : List (List Nat)} (r : Vr rd ids v (ordV L)) : Vr rd ids v (sl2 (L.map natI)) := by
  unfold ordV at r
  unfold sl2
  rw [List.length_map, List.map_map]
  cases r with
  | p r =>
    refine .p ?_
    generalize hm : L.map encP = M at r
    have hM : M.length = L.length := by rw [← hm, List.length_map]
    generalize hn : L.length = n at r hM ⊢
    cases r with
    | nil =>
      have : L = [] := List.eq_nil_of_length_eq_zero hn
      subst this; exact .nil
    | sl0 h =>
      have : L = [] := List.eq_nil_of_length_eq_zero hn
      subst this; exact .sl0 h
    | sl h0 h1 h2 h3 h4 =>
      refine .sl h0 h1 h2 (by rw [List.length_map, hn, ← hM]; exact h3) fun i y x hy hx => ?_
      rw [List.getElem?_map] at hx
      cases hi : L[i]? with
      | none => rw [hi] at hx; cases hx
      | some l =>
        rw [hi] at hx; cases hx
        exact encP_rp (h4 i y (encP l) hy (by rw [← hm, List.getElem?_map, hi]; rfl))
theorem ROrders_ok2 (n : Nat) (hn : n ≤ 6) : VCall cfg 69 [vi n] [] [] (sl2 ((rOrd n).map natI)) [] := VCall.resW (ROrders_ok n hn) fun _ _ _ r => ordV_sl2 r
theorem addL_zero {A : List Int} {n : Nat} (h : A.length = n) : addL A (pvO n none) = A := by
  unfold addL pvO
  apply List.ext_getElem
  · simp [h]
  · intro i h1 h2; simp
theorem addL_one {A : List Int} {n s : Nat} (h : A.length = n) (hs : s < n) : addL A (pvO n (some s)) = A.set s ((A[s]'(by omega)) + 1) := by
  unfold addL pvO
  apply List.ext_getElem
  · simp [h]
  · intro i h1 h2
    rw [List.getElem_zipWith, List.getElem_set, List.getElem_set]
    split
    · rename_i e; subst e; rfl
    · simp
set_option maxHeartbeats 8000000 in
theorem RPower_ok (c : Can) (h : okC c) (h6 : c.ships.length ≤ 6) (lim : Int) : VCall cfg 29 [canV c, vi lim] [] [] (slP (frI (avN (pwO c lim) c.ships.length (rOrd c.ships.length)))) [] := by
  have ko := ROrders_ok2 c.ships.length h6
  have kc := RCostOf_ok c h
  have hLm := fun x hx => rOrd_mem (n := c.ships.length) (l := x) hx
  have hLl := rOrd_len6 h6
  have hLp := rOrd_pos c.ships.length
  have hbb := pwO_bd c lim
  generalize rOrd c.ships.length = O at *
  unfold canV at *
  have hO2 : sl2 (O.map natI) = .p (.sl 1 O.length ((O.map natI).map sl1P)) := by unfold sl2; rw [List.length_map]
  rw [hO2] at ko
  (refine VCall.mk (fn := a29) rfl rfl rfl ?_; simp only [a29, inV, mkB, nmsL, PT.set])
  (repeat (first | refine VC.seq ?_ | refine VC.block ?_ | refine VC.kill ?_ | refine VC.skip ?_ | refine VC.exit ?_ | refine VC.regA ?_ | refine VC.condT ?_ | refine VC.condF ?_))
  (refine VC.regCA ?_; refine VO.moreA ?_; refine VO.call0A (no_orc _ (by decide)) ko ?_; refine VO.endA ?_; (repeat (first | refine VC.seq ?_ | refine VC.block ?_ | refine VC.kill ?_ | refine VC.skip ?_ | refine VC.exit ?_ | refine VC.regA ?_ | refine VC.condT ?_ | refine VC.condF ?_)))
  refine VC.loopG (fun (i : Nat) => ⟨inV [p1, p2, p5, p6, p7] [vi lim, .op 0 p2 0, .p (.sl 1 O.length ((O.map natI).map sl1P)), .os 1 p19 c.ships.length, vi i] .lf, mkB [(p2, .cells [sl1 c.up, sl1 c.cost, sl1 c.ships]), (p19, .cells ((avS (pwO c lim) c.ships.length (O.take i)).map vi))] .lf, [], none⟩) (fun k i => k = O.length - i ∧ i ≤ O.length) (x := 0) ?_ ⟨rfl, Nat.zero_le _⟩ ?_
  · (apply Go.Ab.V.G.weak; constructor <;> simp (config := {decide := true}) only [PT.Le, inV, mkB, PT.set, VSt.kill, VSt.adopt, VSt.alloc, PT.filt, PT.map, List.map_cons, List.map_nil, noref, norefB, deadB, deadV, nos, nm, nmL, nmB, nmE, Pa.eqb, cond_true, cond_false, Bool.not_true, Bool.not_false, Bool.and_true, Bool.true_and, nmL_vi, flV_len, flP_len, flV_nm, flV_ok, flV_pv, flP_map, drop_flP, drop_flV, putC_flV, eqV2, eqV3, bneT, bneF, decide_true, decide_false, frzL_vi, frzL_flV, nmE_ag, nmE_at, frzE_ag, frzE_at, ofAg_len, ofAt_len, atL_vi, nmL_map_p, frzL_map_p, okL_p, toPVs_p, repsZ, nmL_reps, putC_vi, get_flV0, get_flV1, Int.toNat_zero, Int.toNat_one, Int.reduceToNat, eqV_slice, eqV_ptr, eqV_func, nilS, nilP, nilF, nmL_append, true_or, or_true, and_self, true_and, and_true, Option.some.injEq, reduceCtorEq, false_or, or_false, VV.p.injEq, PV.at.injEq, Value.int.injEq, sl1, vi, bl1, vb, nilV, sl1, avS, List.take_zero, List.foldl_nil])
    (all_goals first | rfl | omega | exact ⟨rfl, by omega⟩)
  rintro k i ⟨hk, hi⟩
  simp only [inV, PT.set, mkB]
  have hq2 : (avS (pwO c lim) c.ships.length (O.take i)).length = c.ships.length := avS_len fun l hl => by rw [pwO_len, (hLm l (List.mem_of_mem_take hl)).1]
  have hqb : ∀ x ∈ avS (pwO c lim) c.ships.length (O.take i), 0 ≤ x ∧ x ≤ 8235430000 := fun x hx => by
    have := avS_bd (B := 10000) (fun l _ => hbb l) x hx
    rw [List.length_take] at this
    omega
  have hsn := avS_snoc (pwO c lim) c.ships.length O i
  have hend : i = O.length → avS (pwO c lim) c.ships.length (O.take i) = avS (pwO c lim) c.ships.length O := fun e => by rw [e, List.take_length]
  generalize hA : avS (pwO c lim) c.ships.length (O.take i) = A at *
  (repeat (first | refine VC.seq ?_ | refine VC.block ?_ | refine VC.kill ?_ | refine VC.skip ?_ | refine VC.exit ?_ | refine VC.regA ?_ | refine VC.condT ?_ | refine VC.condF ?_))
  refine VC.condA ?_ ?_ <;> intro h' <;> (simp only [decide_eq_true_eq, decide_eq_false_iff_not, bne_iff_ne, ne_eq, bne_eq_false_iff_eq, beq_iff_eq, beq_eq_false_iff_ne, Bool.not_eq_true', Bool.not_eq_false', Bool.and_eq_true, Bool.or_eq_true, Int.natCast_inj] at h')
  · have h' : i < O.length := by omega
    have hsn := hsn h'
    have hlm := hLm _ (List.getElem_mem h')
    have hge : ((O.map natI).map sl1P)[i]? = some (.sl 1 c.ships.length ((natI O[i]).map pi)) := by
      rw [List.getElem?_map, List.getElem?_map, List.getElem?_eq_getElem h']
      simp only [Option.map_some, sl1P, natI_len, hlm.1]
    have hpw : pwO c lim O[i] = pvO c.ships.length (piv c lim 0 (O[i].drop 0)) := by unfold pwO; rw [hlm.1, List.drop_zero]
    rw [hpw] at hsn
    generalize hPv : piv c lim 0 (O[i].drop 0) = P at *
    have hl : O[i].length = c.ships.length := hlm.1
    have hm : ∀ k (h : k < O[i].length), O[i][k] < c.ships.length := fun k h => hlm.2 _ (List.getElem_mem h)
    have hgL : ∀ k (h : k < (natI O[i]).length) (h2 : k < O[i].length), (natI O[i])[k] = ((O[i][k] : Nat) : Int) := fun k h h2 => natI_get _ k h
    have hnl : (natI O[i]).length = c.ships.length := by rw [natI_len, hl]
    have hds : ∀ k (h : k < O[i].length), O[i].drop k = O[i][k] :: O[i].drop (k + 1) := fun k h => List.drop_eq_getElem_cons h
    have hde : ∀ k, k = c.ships.length → O[i].drop k = [] := fun k e => List.drop_of_length_le (by omega)
    generalize natI O[i] = L at *
    generalize O[i] = l at *
    have hOVl : ((O.map natI).map sl1P).length = O.length := by simp
    generalize (O.map natI).map sl1P = OV at *
    (repeat (first | refine VC.seq ?_ | refine VC.block ?_ | refine VC.kill ?_ | refine VC.skip ?_ | refine VC.exit ?_ | refine VC.regA ?_ | refine VC.condT ?_ | refine VC.condF ?_))
    refine VC.loopG (fun (q : Nat × Nat) => ⟨inV [p1, p2, p5, p6, p7, p8, p9] [vi lim, .op 0 p2 0, .p (.sl 1 O.length OV), .os 1 p19 c.ships.length, vi i, vi (q.2 : Nat), vi (q.1 : Nat)] .lf, mkB [(p2, .cells [sl1 c.up, sl1 c.cost, sl1 c.ships]), (p19, .cells (A.map vi))] .lf, [], none⟩) (fun n q => n = c.ships.length - q.1 ∧ q.1 ≤ c.ships.length ∧ q.2 < 2 ^ c.ships.length ∧ piv c lim q.2 (l.drop q.1) = P) (x := (0, 0)) ?_ ⟨rfl, Nat.zero_le _, Nat.pow_pos (by decide), hPv⟩ ?_
    · (apply Go.Ab.V.G.weak; constructor <;> simp (config := {decide := true}) only [PT.Le, inV, mkB, PT.set, VSt.kill, VSt.adopt, VSt.alloc, PT.filt, PT.map, List.map_cons, List.map_nil, noref, norefB, deadB, deadV, nos, nm, nmL, nmB, nmE, Pa.eqb, cond_true, cond_false, Bool.not_true, Bool.not_false, Bool.and_true, Bool.true_and, nmL_vi, flV_len, flP_len, flV_nm, flV_ok, flV_pv, flP_map, drop_flP, drop_flV, putC_flV, eqV2, eqV3, bneT, bneF, decide_true, decide_false, frzL_vi, frzL_flV, nmE_ag, nmE_at, frzE_ag, frzE_at, ofAg_len, ofAt_len, atL_vi, nmL_map_p, frzL_map_p, okL_p, toPVs_p, repsZ, nmL_reps, putC_vi, get_flV0, get_flV1, Int.toNat_zero, Int.toNat_one, Int.reduceToNat, eqV_slice, eqV_ptr, eqV_func, nilS, nilP, nilF, nmL_append, true_or, or_true, and_self, true_and, and_true, Option.some.injEq, reduceCtorEq, false_or, or_false, VV.p.injEq, PV.at.injEq, Value.int.injEq, sl1, vi, bl1, vb, nilV, sl1])
      (all_goals first | rfl | omega | exact ⟨rfl, by omega⟩)
    rintro n ⟨k, b⟩ ⟨hn, hk2, i2, i4⟩
    simp only at hn hk2 i2 i4
    simp only [inV, PT.set, mkB]
    have hb7 : b < 64 := Nat.lt_of_lt_of_le i2 (show 2 ^ c.ships.length ≤ 2 ^ 6 from Nat.pow_le_pow_right (by decide) h6)
    have hds := hds k
    have hde := hde k
    generalize l.drop k = D at *
    (repeat (first | refine VC.seq ?_ | refine VC.block ?_ | refine VC.kill ?_))
    apply VC.regU
    · (simp (config := {decide := false, maxSteps := 1000000}) (disch := omega) only [vev_call, putC_c0, putC_n0, putC_cs, ble0, List.getElem?_cons_zero, List.getElem?_cons_succ, runU, isCall, wantV, vev, evV, ofVal, ofAtom, atomB, cond_true, cond_false, PT.get, PT.set, PT.filt, PT.map, Option.getD_some, Option.getD_none, ret1V, ret1X, v_ld, v_ias, v_iad, v_fad, v_slsl, v_slarr, v_st, v_app, v_cpy, v_clr, v_len, v_look, v_mset, elsV, partV, newV, free, atV, atI, atL, toVal, cellsV, okV, VSt.put, VSt.kill, VSt.alloc, VSt.frz, VSt.adopt, noref, norefB, deadB, deadV, nos, nm, nmL, nmB, nmE, Pa.eqb, Bool.not_false, Bool.not_true, Bool.and_true, Bool.true_and, Bool.false_and, Bool.and_false, bin, intOps, intBin, cvt, un, goInt, bndsV, bndV, Option.map_some, Option.map_none, List.map_cons, List.map_nil, Int.toNat_natCast, Nat.mul_one, Nat.zero_add, beq_true, beq_false, beq_self_eq_true, List.length_map, List.length_cons, List.length_nil, List.length_append, fillV, pEvV, repsV, List.append_nil, List.nil_append, if_pos, if_neg, reduceIte, List.getElem?_map, List.getElem?_drop, Nat.add_zero, List.getElem?_eq_getElem, Go.IntWalk.i64_in, wrap_u64, tmod_pos, eq_self, true_and, and_true, and_self, List.all_cons, List.all_nil, nmL_vi, flV_len, flP_len, flV_nm, flV_ok, flV_pv, flP_map, drop_flP, drop_flV, putC_flV, eqV2, eqV3, bneT, bneF, decide_true, decide_false, frzL_vi, frzL_flV, nmE_ag, nmE_at, frzE_ag, frzE_at, ofAg_len, ofAt_len, atL_vi, nmL_map_p, frzL_map_p, okL_p, toPVs_p, repsZ, nmL_reps, putC_vi, get_flV0, get_flV1, Int.toNat_zero, Int.toNat_one, Int.reduceToNat, eqV_slice, eqV_ptr, eqV_func, nilS, nilP, nilF, nmL_append, okL_vi, toPVs_vi, toPVs, toPV, frzV, frzL, frzB, resVV, vi, vb, nilV, sl1, bl1, pi, foldV, max2, min2, max_eq, min_eq, Int.tdiv_eq_ediv_of_nonneg, Int.cast_ofNat_Int, Option.isSome_none, Option.isSome_some, Option.isNone_none, Option.isNone_some, and_false, false_and, sl2, sl1P, slP, min_cast, take_map_pi, map_pi, Nat.sub_zero, Nat.zero_mul, List.length_take, decide_eq_true, decide_eq_false, Bool.true_eq_false, Bool.false_eq_true, beqT, beqF, ibeq, ibne, List.take_zero, List.take_succ_cons, List.drop_zero, List.drop_succ_cons, List.drop_nil, List.take_nil, List.cons_append, Bool.not_true, Bool.not_false, hge, hnl])
      rfl
    (repeat (first | refine VC.seq ?_ | refine VC.block ?_ | refine VC.kill ?_ | refine VC.skip ?_ | refine VC.exit ?_ | refine VC.regA ?_ | refine VC.condT ?_ | refine VC.condF ?_))
    refine VC.condA ?_ ?_ <;> intro h' <;> (simp only [decide_eq_true_eq, decide_eq_false_iff_not, bne_iff_ne, ne_eq, bne_eq_false_iff_eq, beq_iff_eq, beq_eq_false_iff_ne, Bool.not_eq_true', Bool.not_eq_false', Bool.and_eq_true, Bool.or_eq_true, Int.natCast_inj] at h')
    · have h' : k < c.ships.length := by omega
      have h'' : k < l.length := by omega
      have hg := hgL k (by omega) h''
      have hsm := hm k h''
      have hds := hds h''
      have hLg : L[k]? = some ((l[k] : Nat) : Int) := by rw [List.getElem?_eq_getElem (by omega), hg]
      generalize hs : l[k] = s at *
      rw [hds] at i4
      unfold piv at i4
      have hbs : b ||| 2 ^ s < 2 ^ c.ships.length := Nat.or_lt_two_pow i2 (Nat.pow_lt_pow_right (by decide) hsm)
      have k1 := kc (b ||| 2 ^ s) hbs
      have hp7 : 2 ^ s < 64 := Nat.lt_of_lt_of_le (Nat.pow_lt_pow_right (by decide) hsm) (show 2 ^ c.ships.length ≤ 2 ^ 6 from Nat.pow_le_pow_right (by decide) h6)
      have hor := or_i64 (a := b) (b := 2 ^ s) (by omega) (by omega)
      have hsh := shl_one (n := s) (by omega)
      have hshw := shl_w (q := s) (by omega)
      generalize costS c (b ||| 2 ^ s) = x1 at *
      generalize b ||| 2 ^ s = b2 at *
      have hsA : s < A.length := by omega
      have hpv := putC_vi A s (A[s] + 1) hsA
      generalize 2 ^ s = w at *
      (repeat (first | refine VC.seq ?_ | refine VC.block ?_ | refine VC.kill ?_ | refine VC.skip ?_ | refine VC.exit ?_ | refine VC.regA ?_ | refine VC.condT ?_ | refine VC.condF ?_))
      apply VC.regU
      · (simp (config := {decide := false, maxSteps := 1000000}) (disch := omega) only [vev_call, putC_c0, putC_n0, putC_cs, ble0, List.getElem?_cons_zero, List.getElem?_cons_succ, runU, isCall, wantV, vev, evV, ofVal, ofAtom, atomB, cond_true, cond_false, PT.get, PT.set, PT.filt, PT.map, Option.getD_some, Option.getD_none, ret1V, ret1X, v_ld, v_ias, v_iad, v_fad, v_slsl, v_slarr, v_st, v_app, v_cpy, v_clr, v_len, v_look, v_mset, elsV, partV, newV, free, atV, atI, atL, toVal, cellsV, okV, VSt.put, VSt.kill, VSt.alloc, VSt.frz, VSt.adopt, noref, norefB, deadB, deadV, nos, nm, nmL, nmB, nmE, Pa.eqb, Bool.not_false, Bool.not_true, Bool.and_true, Bool.true_and, Bool.false_and, Bool.and_false, bin, intOps, intBin, cvt, un, goInt, bndsV, bndV, Option.map_some, Option.map_none, List.map_cons, List.map_nil, Int.toNat_natCast, Nat.mul_one, Nat.zero_add, beq_true, beq_false, beq_self_eq_true, List.length_map, List.length_cons, List.length_nil, List.length_append, fillV, pEvV, repsV, List.append_nil, List.nil_append, if_pos, if_neg, reduceIte, List.getElem?_map, List.getElem?_drop, Nat.add_zero, List.getElem?_eq_getElem, Go.IntWalk.i64_in, wrap_u64, tmod_pos, eq_self, true_and, and_true, and_self, List.all_cons, List.all_nil, nmL_vi, flV_len, flP_len, flV_nm, flV_ok, flV_pv, flP_map, drop_flP, drop_flV, putC_flV, eqV2, eqV3, bneT, bneF, decide_true, decide_false, frzL_vi, frzL_flV, nmE_ag, nmE_at, frzE_ag, frzE_at, ofAg_len, ofAt_len, atL_vi, nmL_map_p, frzL_map_p, okL_p, toPVs_p, repsZ, nmL_reps, putC_vi, get_flV0, get_flV1, Int.toNat_zero, Int.toNat_one, Int.reduceToNat, eqV_slice, eqV_ptr, eqV_func, nilS, nilP, nilF, nmL_append, okL_vi, toPVs_vi, toPVs, toPV, frzV, frzL, frzB, resVV, vi, vb, nilV, sl1, bl1, pi, foldV, max2, min2, max_eq, min_eq, Int.tdiv_eq_ediv_of_nonneg, Int.cast_ofNat_Int, Option.isSome_none, Option.isSome_some, Option.isNone_none, Option.isNone_some, and_false, false_and, sl2, sl1P, slP, min_cast, take_map_pi, map_pi, Nat.sub_zero, Nat.zero_mul, List.length_take, decide_eq_true, decide_eq_false, Bool.true_eq_false, Bool.false_eq_true, beqT, beqF, ibeq, ibne, List.take_zero, List.take_succ_cons, List.drop_zero, List.drop_succ_cons, List.drop_nil, List.take_nil, List.cons_append, Bool.not_true, Bool.not_false, hge, hnl, hLg, hsh, hor])
        rfl
      (repeat (first | refine VC.seq ?_ | refine VC.block ?_ | refine VC.kill ?_ | refine VC.skip ?_ | refine VC.exit ?_ | refine VC.regA ?_ | refine VC.condT ?_ | refine VC.condF ?_))
      (refine VC.regCA ?_; refine VO.moreA ?_; refine VO.call0A (no_orc _ (by decide)) k1 ?_; refine VO.endA ?_; (repeat (first | refine VC.seq ?_ | refine VC.block ?_ | refine VC.kill ?_ | refine VC.skip ?_ | refine VC.exit ?_ | refine VC.regA ?_ | refine VC.condT ?_ | refine VC.condF ?_)))
      refine VC.condA ?_ ?_ <;> intro h2 <;> (simp only [decide_eq_true_eq, decide_eq_false_iff_not, bne_iff_ne, ne_eq, bne_eq_false_iff_eq, beq_iff_eq, beq_eq_false_iff_ne, Bool.not_eq_true', Bool.not_eq_false', Bool.and_eq_true, Bool.or_eq_true, Int.natCast_inj] at h2)
      · rw [if_pos h2] at i4
        rw [← i4, addL_one hq2 hsm] at hsn
        have hqs := hqb _ (List.getElem_mem hsA)
        (repeat (first | refine VC.seq ?_ | refine VC.block ?_ | refine VC.kill ?_ | refine VC.skip ?_ | refine VC.exit ?_ | refine VC.regA ?_ | refine VC.condT ?_ | refine VC.condF ?_))
        apply VC.regU
        · (simp (config := {decide := false, maxSteps := 1000000}) (disch := omega) only [vev_call, putC_c0, putC_n0, putC_cs, ble0, List.getElem?_cons_zero, List.getElem?_cons_succ, runU, isCall, wantV, vev, evV, ofVal, ofAtom, atomB, cond_true, cond_false, PT.get, PT.set, PT.filt, PT.map, Option.getD_some, Option.getD_none, ret1V, ret1X, v_ld, v_ias, v_iad, v_fad, v_slsl, v_slarr, v_st, v_app, v_cpy, v_clr, v_len, v_look, v_mset, elsV, partV, newV, free, atV, atI, atL, toVal, cellsV, okV, VSt.put, VSt.kill, VSt.alloc, VSt.frz, VSt.adopt, noref, norefB, deadB, deadV, nos, nm, nmL, nmB, nmE, Pa.eqb, Bool.not_false, Bool.not_true, Bool.and_true, Bool.true_and, Bool.false_and, Bool.and_false, bin, intOps, intBin, cvt, un, goInt, bndsV, bndV, Option.map_some, Option.map_none, List.map_cons, List.map_nil, Int.toNat_natCast, Nat.mul_one, Nat.zero_add, beq_true, beq_false, beq_self_eq_true, List.length_map, List.length_cons, List.length_nil, List.length_append, fillV, pEvV, repsV, List.append_nil, List.nil_append, if_pos, if_neg, reduceIte, List.getElem?_map, List.getElem?_drop, Nat.add_zero, List.getElem?_eq_getElem, Go.IntWalk.i64_in, wrap_u64, tmod_pos, eq_self, true_and, and_true, and_self, List.all_cons, List.all_nil, nmL_vi, flV_len, flP_len, flV_nm, flV_ok, flV_pv, flP_map, drop_flP, drop_flV, putC_flV, eqV2, eqV3, bneT, bneF, decide_true, decide_false, frzL_vi, frzL_flV, nmE_ag, nmE_at, frzE_ag, frzE_at, ofAg_len, ofAt_len, atL_vi, nmL_map_p, frzL_map_p, okL_p, toPVs_p, repsZ, nmL_reps, putC_vi, get_flV0, get_flV1, Int.toNat_zero, Int.toNat_one, Int.reduceToNat, eqV_slice, eqV_ptr, eqV_func, nilS, nilP, nilF, nmL_append, okL_vi, toPVs_vi, toPVs, toPV, frzV, frzL, frzB, resVV, vi, vb, nilV, sl1, bl1, pi, foldV, max2, min2, max_eq, min_eq, Int.tdiv_eq_ediv_of_nonneg, Int.cast_ofNat_Int, Option.isSome_none, Option.isSome_some, Option.isNone_none, Option.isNone_some, and_false, false_and, sl2, sl1P, slP, min_cast, take_map_pi, map_pi, Nat.sub_zero, Nat.zero_mul, List.length_take, decide_eq_true, decide_eq_false, Bool.true_eq_false, Bool.false_eq_true, beqT, beqF, ibeq, ibne, List.take_zero, List.take_succ_cons, List.drop_zero, List.drop_succ_cons, List.drop_nil, List.take_nil, List.cons_append, Bool.not_true, Bool.not_false, hge, hnl, hLg])
          rfl
        (repeat (first | refine VC.seq ?_ | refine VC.block ?_ | refine VC.kill ?_ | refine VC.skip ?_ | refine VC.exit ?_ | refine VC.regA ?_ | refine VC.condT ?_ | refine VC.condF ?_))
        refine ⟨_, i + 1, ?_, ⟨rfl, by omega⟩, ?_⟩
        · omega
        · rw [hsn]
          (apply Go.Ab.V.G.weak; constructor <;> simp (config := {decide := true}) only [PT.Le, inV, mkB, PT.set, VSt.kill, VSt.adopt, VSt.alloc, PT.filt, PT.map, List.map_cons, List.map_nil, noref, norefB, deadB, deadV, nos, nm, nmL, nmB, nmE, Pa.eqb, cond_true, cond_false, Bool.not_true, Bool.not_false, Bool.and_true, Bool.true_and, nmL_vi, flV_len, flP_len, flV_nm, flV_ok, flV_pv, flP_map, drop_flP, drop_flV, putC_flV, eqV2, eqV3, bneT, bneF, decide_true, decide_false, frzL_vi, frzL_flV, nmE_ag, nmE_at, frzE_ag, frzE_at, ofAg_len, ofAt_len, atL_vi, nmL_map_p, frzL_map_p, okL_p, toPVs_p, repsZ, nmL_reps, putC_vi, get_flV0, get_flV1, Int.toNat_zero, Int.toNat_one, Int.reduceToNat, eqV_slice, eqV_ptr, eqV_func, nilS, nilP, nilF, nmL_append, true_or, or_true, and_self, true_and, and_true, Option.some.injEq, reduceCtorEq, false_or, or_false, VV.p.injEq, PV.at.injEq, Value.int.injEq, sl1, vi, bl1, vb, nilV, sl1])
          (all_goals first | rfl | omega | exact ⟨rfl, by omega⟩)
      · rw [if_neg h2] at i4
        (repeat (first | refine VC.seq ?_ | refine VC.block ?_ | refine VC.kill ?_ | refine VC.skip ?_ | refine VC.exit ?_ | refine VC.regA ?_ | refine VC.condT ?_ | refine VC.condF ?_))
        refine ⟨_, (k + 1, b2), ?_, ⟨rfl, by simp only; omega, hbs, i4⟩, ?_⟩
        · simp only; omega
        · (apply Go.Ab.V.G.weak; constructor <;> simp (config := {decide := true}) only [PT.Le, inV, mkB, PT.set, VSt.kill, VSt.adopt, VSt.alloc, PT.filt, PT.map, List.map_cons, List.map_nil, noref, norefB, deadB, deadV, nos, nm, nmL, nmB, nmE, Pa.eqb, cond_true, cond_false, Bool.not_true, Bool.not_false, Bool.and_true, Bool.true_and, nmL_vi, flV_len, flP_len, flV_nm, flV_ok, flV_pv, flP_map, drop_flP, drop_flV, putC_flV, eqV2, eqV3, bneT, bneF, decide_true, decide_false, frzL_vi, frzL_flV, nmE_ag, nmE_at, frzE_ag, frzE_at, ofAg_len, ofAt_len, atL_vi, nmL_map_p, frzL_map_p, okL_p, toPVs_p, repsZ, nmL_reps, putC_vi, get_flV0, get_flV1, Int.toNat_zero, Int.toNat_one, Int.reduceToNat, eqV_slice, eqV_ptr, eqV_func, nilS, nilP, nilF, nmL_append, true_or, or_true, and_self, true_and, and_true, Option.some.injEq, reduceCtorEq, false_or, or_false, VV.p.injEq, PV.at.injEq, Value.int.injEq, sl1, vi, bl1, vb, nilV, sl1])
          (all_goals first | rfl | omega | exact ⟨rfl, by omega⟩)
    · have hde := hde (by omega)
      rw [hde] at i4
      unfold piv at i4
      rw [← i4, addL_zero hq2] at hsn
      (repeat (first | refine VC.seq ?_ | refine VC.block ?_ | refine VC.kill ?_ | refine VC.skip ?_ | refine VC.exit ?_ | refine VC.regA ?_ | refine VC.condT ?_ | refine VC.condF ?_))
      refine ⟨_, i + 1, ?_, ⟨rfl, by omega⟩, ?_⟩
      · omega
      · rw [hsn]
        (apply Go.Ab.V.G.weak; constructor <;> simp (config := {decide := true}) only [PT.Le, inV, mkB, PT.set, VSt.kill, VSt.adopt, VSt.alloc, PT.filt, PT.map, List.map_cons, List.map_nil, noref, norefB, deadB, deadV, nos, nm, nmL, nmB, nmE, Pa.eqb, cond_true, cond_false, Bool.not_true, Bool.not_false, Bool.and_true, Bool.true_and, nmL_vi, flV_len, flP_len, flV_nm, flV_ok, flV_pv, flP_map, drop_flP, drop_flV, putC_flV, eqV2, eqV3, bneT, bneF, decide_true, decide_false, frzL_vi, frzL_flV, nmE_ag, nmE_at, frzE_ag, frzE_at, ofAg_len, ofAt_len, atL_vi, nmL_map_p, frzL_map_p, okL_p, toPVs_p, repsZ, nmL_reps, putC_vi, get_flV0, get_flV1, Int.toNat_zero, Int.toNat_one, Int.reduceToNat, eqV_slice, eqV_ptr, eqV_func, nilS, nilP, nilF, nmL_append, true_or, or_true, and_self, true_and, and_true, Option.some.injEq, reduceCtorEq, false_or, or_false, VV.p.injEq, PV.at.injEq, Value.int.injEq, sl1, vi, bl1, vb, nilV, sl1])
        (all_goals first | rfl | omega | exact ⟨rfl, by omega⟩)
  · have hi2 : i = O.length := by omega
    have hend := hend hi2
    have hA2 : avN (pwO c lim) c.ships.length O = A.map fun x => nrm x.toNat O.length := by unfold avN; rw [hend]
    obtain ⟨W, hW⟩ : ∃ W, W = frI (avN (pwO c lim) c.ships.length O) := ⟨_, rfl⟩
    have hWl : W.length = A.length := by rw [hW, hA2]; simp [frI]
    have hWg : ∀ i (hi : i < W.length) (hi2 : i < A.length), W[i] = (((nrm A[i].toNat O.length).1 : Int), ((nrm A[i].toNat O.length).2 : Int)) := fun i hi hi2 => by
      subst hW
      simp [frI, hA2]
    rw [← hW]
    clear hW hA hA2
    (repeat (first | refine VC.seq ?_ | refine VC.block ?_ | refine VC.kill ?_ | refine VC.skip ?_ | refine VC.exit ?_ | refine VC.regA ?_ | refine VC.condT ?_ | refine VC.condF ?_))
    refine VC.loopG (fun (j : Nat) => ⟨inV [p5, p6, p10, p11] [.p (.sl 1 O.length ((O.map natI).map sl1P)), .os 1 p19 c.ships.length, .os 2 p77 j, vi j] .lf, mkB [(p19, .cells (A.map vi)), (p77, .cells (flV (W.take j)))] .lf, [], none⟩) (fun k j => k = c.ships.length - j ∧ j ≤ c.ships.length) (x := 0) ?_ ⟨rfl, Nat.zero_le _⟩ ?_
    · refine G.adoptA (p := p10) 2 p77 ?_
      (apply Go.Ab.V.G.weak; constructor <;> simp (config := {decide := true}) only [PT.Le, inV, mkB, PT.set, VSt.kill, VSt.adopt, VSt.alloc, PT.filt, PT.map, List.map_cons, List.map_nil, noref, norefB, deadB, deadV, nos, nm, nmL, nmB, nmE, Pa.eqb, cond_true, cond_false, Bool.not_true, Bool.not_false, Bool.and_true, Bool.true_and, nmL_vi, flV_len, flP_len, flV_nm, flV_ok, flV_pv, flP_map, drop_flP, drop_flV, putC_flV, eqV2, eqV3, bneT, bneF, decide_true, decide_false, frzL_vi, frzL_flV, nmE_ag, nmE_at, frzE_ag, frzE_at, ofAg_len, ofAt_len, atL_vi, nmL_map_p, frzL_map_p, okL_p, toPVs_p, repsZ, nmL_reps, putC_vi, get_flV0, get_flV1, Int.toNat_zero, Int.toNat_one, Int.reduceToNat, eqV_slice, eqV_ptr, eqV_func, nilS, nilP, nilF, nmL_append, true_or, or_true, and_self, true_and, and_true, Option.some.injEq, reduceCtorEq, false_or, or_false, VV.p.injEq, PV.at.injEq, Value.int.injEq, sl1, vi, bl1, vb, nilV, vi, List.take_zero, flV])
      rfl
    rintro k j ⟨hk, hj⟩
    simp only [inV, PT.set, mkB]
    have hll : (flV (W.take j)).length = j * 2 := by rw [flV_len, List.length_take]; omega
    have hn2 := flV_nm (W.take j)
    have htk : ∀ h : j < W.length, flV (W.take (j + 1)) = flV (W.take j) ++ [vi W[j].1, vi W[j].2] := fun h => by rw [List.take_add_one, List.getElem?_eq_getElem h]; exact flV_snoc _ _ _
    have hfz2 : j = W.length → flV (W.take j) = flV W := fun e => by rw [e, List.take_length]
    generalize flV (W.take j) = Z at *
    (repeat (first | refine VC.seq ?_ | refine VC.block ?_ | refine VC.kill ?_ | refine VC.skip ?_ | refine VC.exit ?_ | refine VC.regA ?_ | refine VC.condT ?_ | refine VC.condF ?_))
    refine VC.condA ?_ ?_ <;> intro h' <;> (simp only [decide_eq_true_eq, decide_eq_false_iff_not, bne_iff_ne, ne_eq, bne_eq_false_iff_eq, beq_iff_eq, beq_eq_false_iff_ne, Bool.not_eq_true', Bool.not_eq_false', Bool.and_eq_true, Bool.or_eq_true, Int.natCast_inj] at h')
    · have h' : j < c.ships.length := by omega
      have hi2 : j < A.length := by rw [hq2]; exact h'
      have hi3 : j < W.length := by rw [hWl]; exact hi2
      have htk := htk hi3
      have hb := hqb _ (List.getElem_mem hi2)
      have k1 := fraction_ok A[j].toNat O.length (by omega) (by omega) hLp
      rw [Int.toNat_of_nonneg hb.1] at k1
      rw [hWg j hi3 hi2] at htk
      (repeat (first | refine VC.seq ?_ | refine VC.block ?_ | refine VC.kill ?_ | refine VC.skip ?_ | refine VC.exit ?_ | refine VC.regA ?_ | refine VC.condT ?_ | refine VC.condF ?_))
      refine VC.regCA ?_
      refine VO.moreA ?_
      refine VO.call0A (no_orc 59 (by decide)) k1 ?_
      apply VO.upto
      · (simp (config := {decide := false, maxSteps := 1000000}) (disch := omega) only [vev_call, putC_c0, putC_n0, putC_cs, ble0, List.getElem?_cons_zero, List.getElem?_cons_succ, runU, isCall, wantV, vev, evV, ofVal, ofAtom, atomB, cond_true, cond_false, PT.get, PT.set, PT.filt, PT.map, Option.getD_some, Option.getD_none, ret1V, ret1X, v_ld, v_ias, v_iad, v_fad, v_slsl, v_slarr, v_st, v_app, v_cpy, v_clr, v_len, v_look, v_mset, elsV, partV, newV, free, atV, atI, atL, toVal, cellsV, okV, VSt.put, VSt.kill, VSt.alloc, VSt.frz, VSt.adopt, noref, norefB, deadB, deadV, nos, nm, nmL, nmB, nmE, Pa.eqb, Bool.not_false, Bool.not_true, Bool.and_true, Bool.true_and, Bool.false_and, Bool.and_false, bin, intOps, intBin, cvt, un, goInt, bndsV, bndV, Option.map_some, Option.map_none, List.map_cons, List.map_nil, Int.toNat_natCast, Nat.mul_one, Nat.zero_add, beq_true, beq_false, beq_self_eq_true, List.length_map, List.length_cons, List.length_nil, List.length_append, fillV, pEvV, repsV, List.append_nil, List.nil_append, if_pos, if_neg, reduceIte, List.getElem?_map, List.getElem?_drop, Nat.add_zero, List.getElem?_eq_getElem, Go.IntWalk.i64_in, wrap_u64, tmod_pos, eq_self, true_and, and_true, and_self, List.all_cons, List.all_nil, nmL_vi, flV_len, flP_len, flV_nm, flV_ok, flV_pv, flP_map, drop_flP, drop_flV, putC_flV, eqV2, eqV3, bneT, bneF, decide_true, decide_false, frzL_vi, frzL_flV, nmE_ag, nmE_at, frzE_ag, frzE_at, ofAg_len, ofAt_len, atL_vi, nmL_map_p, frzL_map_p, okL_p, toPVs_p, repsZ, nmL_reps, putC_vi, get_flV0, get_flV1, Int.toNat_zero, Int.toNat_one, Int.reduceToNat, eqV_slice, eqV_ptr, eqV_func, nilS, nilP, nilF, nmL_append, okL_vi, toPVs_vi, toPVs, toPV, frzV, frzL, frzB, resVV, vi, vb, nilV, sl1, bl1, pi, foldV, max2, min2, max_eq, min_eq, Int.tdiv_eq_ediv_of_nonneg, Int.cast_ofNat_Int, Option.isSome_none, Option.isSome_some, Option.isNone_none, Option.isNone_some, and_false, false_and, sl2, sl1P, slP, min_cast, take_map_pi, map_pi, Nat.sub_zero, Nat.zero_mul, List.length_take, decide_eq_true, decide_eq_false, Bool.true_eq_false, Bool.false_eq_true, beqT, beqF, ibeq, ibne, List.take_zero, List.take_succ_cons, List.drop_zero, List.drop_succ_cons, List.drop_nil, List.take_nil, List.cons_append, Bool.not_true, Bool.not_false, hll, hn2])
        rfl
      refine VO.nil ?_
      (repeat (first | refine VC.seq ?_ | refine VC.block ?_ | refine VC.kill ?_ | refine VC.skip ?_ | refine VC.exit ?_ | refine VC.regA ?_ | refine VC.condT ?_ | refine VC.condF ?_))
      refine ⟨_, j + 1, ?_, ⟨rfl, by omega⟩, ?_⟩
      · omega
      · (apply Go.Ab.V.G.weak; constructor <;> simp (config := {decide := true}) only [PT.Le, inV, mkB, PT.set, VSt.kill, VSt.adopt, VSt.alloc, PT.filt, PT.map, List.map_cons, List.map_nil, noref, norefB, deadB, deadV, nos, nm, nmL, nmB, nmE, Pa.eqb, cond_true, cond_false, Bool.not_true, Bool.not_false, Bool.and_true, Bool.true_and, nmL_vi, flV_len, flP_len, flV_nm, flV_ok, flV_pv, flP_map, drop_flP, drop_flV, putC_flV, eqV2, eqV3, bneT, bneF, decide_true, decide_false, frzL_vi, frzL_flV, nmE_ag, nmE_at, frzE_ag, frzE_at, ofAg_len, ofAt_len, atL_vi, nmL_map_p, frzL_map_p, okL_p, toPVs_p, repsZ, nmL_reps, putC_vi, get_flV0, get_flV1, Int.toNat_zero, Int.toNat_one, Int.reduceToNat, eqV_slice, eqV_ptr, eqV_func, nilS, nilP, nilF, nmL_append, true_or, or_true, and_self, true_and, and_true, Option.some.injEq, reduceCtorEq, false_or, or_false, VV.p.injEq, PV.at.injEq, Value.int.injEq, sl1, vi, bl1, vb, nilV, htk, vi])
        (all_goals first | rfl | omega | exact ⟨rfl, by omega⟩)
    · have h' : j = W.length := by omega
      have hz := hfz2 h'
      rw [hz]
      subst h'
      (repeat (first | refine VC.seq ?_ | refine VC.block ?_ | refine VC.kill ?_ | refine VC.skip ?_ | refine VC.exit ?_ | refine VC.regA ?_ | refine VC.condT ?_ | refine VC.condF ?_))
      refine VC.ret (Fin.frzA p77 (hb := rfl) (hc := flV_pv _) (Fin.A ?_))
      unfold slP; rfl
end Go.Ab.Dues

namespace Go.Ab.Dues
open Go.Ab.V
set_option maxRecDepth 100000
theorem addL_swap (a b c : List Int) : addL (addL a b) c = addL (addL a c) b := by
  unfold addL
  apply List.ext_getElem
  · simp only [List.length_zipWith]; omega
  · intro i h1 h2
    simp only [List.getElem_zipWith]; omega
theorem avS_perm (g : List Nat → List Int) (n : Nat) {L L' : List (List Nat)} (h : L.Perm L') : avS g n L = avS g n L' := by
  unfold avS
  generalize List.replicate n (0 : Int) = a
  induction h generalizing a with
  | nil => rfl
  | cons x _ ih => exact ih _
  | swap x y l => simp only [List.foldl_cons]; rw [addL_swap]
  | trans _ _ ih1 ih2 => exact (ih1 a).trans (ih2 a)
theorem avN_perm (g : List Nat → List Int) (n : Nat) {L L' : List (List Nat)} (h : L.Perm L') : avN g n L = avN g n L' := by
  unfold avN; rw [avS_perm g n h, h.length_eq]
theorem avN_len {g : List Nat → List Int} {n : Nat} {L : List (List Nat)} (h : ∀ l ∈ L, (g l).length = n) : (frI (avN g n L)).length = n := by
  simp only [frI, avN, List.length_map]; exact avS_len h
end Go.Ab.Dues
