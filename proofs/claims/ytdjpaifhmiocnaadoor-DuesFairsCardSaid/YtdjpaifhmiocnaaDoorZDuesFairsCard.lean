/- Proved: for every input the law DuesFairs returns true, and each argument reads afterwards as it read before. The card says it where the package variables that the law reads hold what their initialization left. -/
import Derived.Test.YtdjpaifhmiocnaaDoorRows
import Derived.WalkKit
import Derived.ProofKit
import Derived.OpenShut
import Derived.ShutString
import Derived.ChangeOld
import Derived.Below
import Derived.Carry
import Derived.Test.YtdjpaifhmiocnaaDoorCards
import Derived.Test.YtdjpaifhmiocnaaDoorTie
import Derived.SevenTiedAt
import Derived.Handed
import Derived.Test.YtdjpaifhmiocnaaDoorA04
set_option linter.unusedSimpArgs false
set_option linter.unusedVariables false
namespace Go.Ab.Dues
open Go.Ab.V
set_option maxRecDepth 100000
theorem fl_nm (c : Can) (nd : List Nat) (m : Pa) : nmL (flC c nd m) = [m] := by
  unfold flC
  simp only [nmL, nmL_append, nmL_nat, nm, sl1, List.nil_append, List.append_nil]
theorem es_nm : ∀ M : List (Nat × Int), nmE (esM M) = []
  | [] => rfl
  | q :: M => by show nm (vi q.2) ++ nmE (esM M) = []; rw [es_nm M]; rfl
theorem fl_frz (c : Can) (nd : List Nat) (m a : Pa) (cs : List PV) : frzL a cs (flC c nd m) = flC c nd m := by
  rw [frzL_eq]
  simp [flC, frzV, sl1, vi]
theorem es_frz (a : Pa) (cs : List PV) (M : List (Nat × Int)) : ((esM M).map fun e => (e.1, frzV a cs e.2)) = esM M := by
  unfold esM; rw [List.map_map]
  exact List.map_congr_left fun e _ => rfl
set_option maxHeartbeats 8000000 in
theorem cost_ok (c : Can) (h : okC c) (M : List (Nat × Int)) (hM : okM c M) (S : Nat) (hS : S < 2 ^ c.ships.length) :
    VCall cfg 68 [.op 0 p16 0, vi S] [(p16, .cells (flC c (needK c c.ships.length) p14)), (p14, .map (esM M))] [] (vi (costS c S)) [(p16, .cells (flC c (needK c c.ships.length) p14)), (p14, .map (esM (memo c M S)))] := by
  have h7 := h.s7
  have hS7 : S < 1024 := Nat.lt_of_lt_of_le hS (show 2 ^ c.ships.length ≤ 2 ^ 10 from Nat.pow_le_pow_right (by decide) (by omega))
  have hnl := needK_len c c.ships.length
  have hPl := pieces_lt h c.ships.length S
  have hmap := fl_map c (needK c c.ships.length) p14 hnl
  have hfind := find_esM c M S hM
  have hkey := keyI S S
  rw [decide_eq_true rfl] at hkey
  have hcs : costS c S = costP c.cost (pieces (needK c c.ships.length) S) := rfl
  have hfl1 : ∀ nd m, (flC c nd m)[1]? = some (sl1 c.cost) := fun _ _ => rfl
  have hndlt := needK_lt h c.ships.length
  have hpb : ∀ p ∈ bitsN (pieces (needK c c.ships.length) S), p < c.cost.length := fun p hp => by
    obtain ⟨s, _, hs⟩ := pieces_bit.1 (bitsN_mem.1 hp).2
    have := needK_bit h hs
    rw [h.cl]; exact this
  generalize hND : needK c c.ships.length = nd at *
  have hP := members_ok (pieces nd S) hPl
  (refine VCall.mk (fn := a68) rfl rfl rfl ?_; simp only [a68, inV, mkB, nmsL, PT.set])
  cases hany : M.any (fun q => decide (q.1 = S)) with
  | true =>
    rw [hany] at hfind
    simp only [if_true] at hfind
    have hmm : memo c M S = M := by unfold memo; rw [if_pos hany]
    rw [hmm]
    (repeat (first | refine VC.seq ?_ | refine VC.block ?_ | refine VC.kill ?_ | refine VC.skip ?_ | refine VC.exit ?_ | refine VC.regA ?_ | refine VC.condT ?_ | refine VC.condF ?_))
    ((try (apply VC.regU; · ((simp (config := {decide := false, maxSteps := 1000000}) (disch := omega) only [vev_call, putC_c0, putC_n0, putC_cs, ble0, List.getElem?_cons_zero, List.getElem?_cons_succ, runU, isCall, wantV, vev, evV, ofVal, ofAtom, atomB, cond_true, cond_false, PT.get, PT.set, PT.filt, PT.map, Option.getD_some, Option.getD_none, ret1V, ret1X, v_ld, v_ias, v_iad, v_fad, v_slsl, v_slarr, v_st, v_app, v_cpy, v_clr, v_len, v_look, v_mset, elsV, partV, newV, free, atV, atI, atL, toVal, cellsV, okV, VSt.put, VSt.kill, VSt.alloc, VSt.frz, VSt.adopt, noref, norefB, deadB, deadV, nos, nm, nmL, nmB, nmE, Pa.eqb, Bool.not_false, Bool.not_true, Bool.and_true, Bool.true_and, Bool.false_and, Bool.and_false, bin, intOps, intBin, cvt, un, goInt, bndsV, bndV, Option.map_some, Option.map_none, List.map_cons, List.map_nil, Int.toNat_natCast, Nat.mul_one, Nat.zero_add, beq_true, beq_false, beq_self_eq_true, List.length_map, List.length_cons, List.length_nil, List.length_append, fillV, pEvV, repsV, List.append_nil, List.nil_append, if_pos, if_neg, reduceIte, List.getElem?_map, List.getElem?_drop, Nat.add_zero, List.getElem?_eq_getElem, Go.IntWalk.i64_in, wrap_u64, tmod_pos, eq_self, true_and, and_true, and_self, List.all_cons, List.all_nil, nmL_vi, flV_len, flP_len, flV_nm, flV_ok, flV_pv, flP_map, drop_flP, drop_flV, putC_flV, eqV2, eqV3, bneT, bneF, decide_true, decide_false, frzL_vi, frzL_flV, nmE_ag, nmE_at, frzE_ag, frzE_at, ofAg_len, ofAt_len, atL_vi, nmL_map_p, frzL_map_p, okL_p, toPVs_p, repsZ, nmL_reps, putC_vi, get_flV0, get_flV1, Int.toNat_zero, Int.toNat_one, Int.reduceToNat, eqV_slice, eqV_ptr, eqV_func, nilS, nilP, nilF, nmL_append, okL_vi, toPVs_vi, toPVs, toPV, frzV, frzL, frzB, resVV, vi, vb, nilV, sl1, bl1, pi, foldV, max2, min2, max_eq, min_eq, Int.tdiv_eq_ediv_of_nonneg, Int.cast_ofNat_Int, Option.isSome_none, Option.isSome_some, Option.isNone_none, Option.isNone_some, and_false, false_and, sl2, sl1P, slP, min_cast, take_map_pi, map_pi, Nat.sub_zero, Nat.zero_mul, List.length_take, decide_eq_true, decide_eq_false, Bool.true_eq_false, Bool.false_eq_true, beqT, beqF, ibeq, ibne, List.take_zero, List.take_succ_cons, List.drop_zero, List.drop_succ_cons, List.drop_nil, List.take_nil, List.cons_append, Bool.not_true, Bool.not_false, hmap, hfind, hkey]); rfl))); (repeat (first | refine VC.seq ?_ | refine VC.block ?_ | refine VC.kill ?_ | refine VC.skip ?_ | refine VC.exit ?_ | refine VC.regA ?_ | refine VC.condT ?_ | refine VC.condF ?_)))
    refine VC.ret (Fin.of rfl rfl ?_ rfl rfl ?_)
    · simp [mkB, PT.set, PT.Le, VSt.kill]
    · simp [subs, nm, nmL, nmsB, nmB, es_nm, fl_nm, nos, Pa.eqb, vi, sl1]
  | false =>
    rw [hany] at hfind
    simp only [Bool.false_eq_true, if_false] at hfind
    have hk := members_ok S hS7
    (repeat (first | refine VC.seq ?_ | refine VC.block ?_ | refine VC.kill ?_ | refine VC.skip ?_ | refine VC.exit ?_ | refine VC.regA ?_ | refine VC.condT ?_ | refine VC.condF ?_))
    ((try (apply VC.regU; · ((simp (config := {decide := false, maxSteps := 1000000}) (disch := omega) only [vev_call, putC_c0, putC_n0, putC_cs, ble0, List.getElem?_cons_zero, List.getElem?_cons_succ, runU, isCall, wantV, vev, evV, ofVal, ofAtom, atomB, cond_true, cond_false, PT.get, PT.set, PT.filt, PT.map, Option.getD_some, Option.getD_none, ret1V, ret1X, v_ld, v_ias, v_iad, v_fad, v_slsl, v_slarr, v_st, v_app, v_cpy, v_clr, v_len, v_look, v_mset, elsV, partV, newV, free, atV, atI, atL, toVal, cellsV, okV, VSt.put, VSt.kill, VSt.alloc, VSt.frz, VSt.adopt, noref, norefB, deadB, deadV, nos, nm, nmL, nmB, nmE, Pa.eqb, Bool.not_false, Bool.not_true, Bool.and_true, Bool.true_and, Bool.false_and, Bool.and_false, bin, intOps, intBin, cvt, un, goInt, bndsV, bndV, Option.map_some, Option.map_none, List.map_cons, List.map_nil, Int.toNat_natCast, Nat.mul_one, Nat.zero_add, beq_true, beq_false, beq_self_eq_true, List.length_map, List.length_cons, List.length_nil, List.length_append, fillV, pEvV, repsV, List.append_nil, List.nil_append, if_pos, if_neg, reduceIte, List.getElem?_map, List.getElem?_drop, Nat.add_zero, List.getElem?_eq_getElem, Go.IntWalk.i64_in, wrap_u64, tmod_pos, eq_self, true_and, and_true, and_self, List.all_cons, List.all_nil, nmL_vi, flV_len, flP_len, flV_nm, flV_ok, flV_pv, flP_map, drop_flP, drop_flV, putC_flV, eqV2, eqV3, bneT, bneF, decide_true, decide_false, frzL_vi, frzL_flV, nmE_ag, nmE_at, frzE_ag, frzE_at, ofAg_len, ofAt_len, atL_vi, nmL_map_p, frzL_map_p, okL_p, toPVs_p, repsZ, nmL_reps, putC_vi, get_flV0, get_flV1, Int.toNat_zero, Int.toNat_one, Int.reduceToNat, eqV_slice, eqV_ptr, eqV_func, nilS, nilP, nilF, nmL_append, okL_vi, toPVs_vi, toPVs, toPV, frzV, frzL, frzB, resVV, vi, vb, nilV, sl1, bl1, pi, foldV, max2, min2, max_eq, min_eq, Int.tdiv_eq_ediv_of_nonneg, Int.cast_ofNat_Int, Option.isSome_none, Option.isSome_some, Option.isNone_none, Option.isNone_some, and_false, false_and, sl2, sl1P, slP, min_cast, take_map_pi, map_pi, Nat.sub_zero, Nat.zero_mul, List.length_take, decide_eq_true, decide_eq_false, Bool.true_eq_false, Bool.false_eq_true, beqT, beqF, ibeq, ibne, List.take_zero, List.take_succ_cons, List.drop_zero, List.drop_succ_cons, List.drop_nil, List.take_nil, List.cons_append, Bool.not_true, Bool.not_false, hmap, hfind, hkey]); rfl))); (repeat (first | refine VC.seq ?_ | refine VC.block ?_ | refine VC.kill ?_ | refine VC.skip ?_ | refine VC.exit ?_ | refine VC.regA ?_ | refine VC.condT ?_ | refine VC.condF ?_)))
    (refine VC.regCA ?_; refine VO.moreA ?_; refine VO.call0A (no_orc _ (by decide)) hk ?_; refine VO.endA ?_; (repeat (first | refine VC.seq ?_ | refine VC.block ?_ | refine VC.kill ?_ | refine VC.skip ?_ | refine VC.exit ?_ | refine VC.regA ?_ | refine VC.condT ?_ | refine VC.condF ?_)))
    have hbl : (bitsL S).length = (bitsN S).length := by simp [bitsL]
    have hacc : ∀ i, ((bitsN S).take i).foldl (fun a s => a ||| nd.getD s 0) 0 < 1024 := fun i => fold_or_lt nd hndlt _ 0 (by decide)
    have hb10 := bitsN_len S
    refine VC.loopG (fun (i : Nat) => ⟨inV [p0, p1, p7, p25, p26, p27] [.op 0 p16 0, vi S, vi (((bitsN S).take i).foldl (fun a s => a ||| nd.getD s 0) 0 : Nat), sl1 (bitsL S), vi (bitsL S).length, vi i] .lf, mkB [(p16, .cells (flC c nd p14)), (p14, .map (esM M))] .lf, [p16, p14], none⟩) (fun n i => n = (bitsN S).length - i ∧ i ≤ (bitsN S).length) (x := 0) ?_ ⟨rfl, Nat.zero_le _⟩ ?_
    · (apply Go.Ab.V.G.weak; constructor <;> simp (config := {decide := true}) only [PT.Le, inV, mkB, PT.set, VSt.kill, VSt.adopt, VSt.alloc, PT.filt, PT.map, List.map_cons, List.map_nil, noref, norefB, deadB, deadV, nos, nm, nmL, nmB, nmE, Pa.eqb, cond_true, cond_false, Bool.not_true, Bool.not_false, Bool.and_true, Bool.true_and, nmL_vi, flV_len, flP_len, flV_nm, flV_ok, flV_pv, flP_map, drop_flP, drop_flV, putC_flV, eqV2, eqV3, bneT, bneF, decide_true, decide_false, frzL_vi, frzL_flV, nmE_ag, nmE_at, frzE_ag, frzE_at, ofAg_len, ofAt_len, atL_vi, nmL_map_p, frzL_map_p, okL_p, toPVs_p, repsZ, nmL_reps, putC_vi, get_flV0, get_flV1, Int.toNat_zero, Int.toNat_one, Int.reduceToNat, eqV_slice, eqV_ptr, eqV_func, nilS, nilP, nilF, nmL_append, true_or, or_true, and_self, true_and, and_true, Option.some.injEq, reduceCtorEq, false_or, or_false, VV.p.injEq, PV.at.injEq, Value.int.injEq, sl1, vi, bl1, vb, nilV, sl1])
      (all_goals first | rfl | omega | exact ⟨rfl, by omega⟩)
    · rintro n i ⟨hn, hi⟩
      simp only [inV, PT.set, mkB]
      have ha := hacc i
      have hft : ∀ h : i < (bitsN S).length, ((bitsN S).take (i + 1)).foldl (fun a s => a ||| nd.getD s 0) 0 = ((bitsN S).take i).foldl (fun a s => a ||| nd.getD s 0) 0 ||| nd.getD (bitsN S)[i] 0 := fun h => fold_take _ _ _ _ h
      have hend : i = (bitsN S).length → ((bitsN S).take i).foldl (fun a s => a ||| nd.getD s 0) 0 = pieces nd S := fun e => by rw [e, List.take_length]; rfl
      generalize hA : ((bitsN S).take i).foldl (fun a s => a ||| nd.getD s 0) 0 = acc at *
      (repeat (first | refine VC.seq ?_ | refine VC.block ?_ | refine VC.kill ?_ | refine VC.skip ?_ | refine VC.exit ?_ | refine VC.regA ?_ | refine VC.condT ?_ | refine VC.condF ?_))
      refine VC.condA ?_ ?_ <;> intro h' <;> (simp only [decide_eq_true_eq, decide_eq_false_iff_not, bne_iff_ne, ne_eq, bne_eq_false_iff_eq, beq_iff_eq, beq_eq_false_iff_ne, Bool.not_eq_true', Bool.not_eq_false', Bool.and_eq_true, Bool.or_eq_true, Int.natCast_inj] at h')
      · have h' : i < (bitsN S).length := by omega
        have h'' : i < (bitsL S).length := by omega
        have hft := hft h'
        have hg := bitsL_get S i h''
        have hmem := bitsN_mem.1 (List.getElem_mem h')
        have hs7 := bit_lt hS hmem.2
        generalize hs : (bitsN S)[i] = s at *
        have hs' : s < nd.length := by omega
        have hgs := fl_get c nd p14 s hs'
        have hgd : nd.getD s 0 = nd[s] := by rw [List.getD_eq_getElem?_getD, List.getElem?_eq_getElem hs']; rfl
        have hlt := hndlt s
        rw [hgd] at hft hlt
        have hor1 := or_i64 (a := acc) (b := nd[s]) (by omega) (by omega)
        (repeat (first | refine VC.seq ?_ | refine VC.block ?_ | refine VC.kill ?_ | refine VC.skip ?_ | refine VC.exit ?_ | refine VC.regA ?_ | refine VC.condT ?_ | refine VC.condF ?_))
        simp only [hg]
        ((try (apply VC.regU; · ((simp (config := {decide := false, maxSteps := 1000000}) (disch := omega) only [vev_call, putC_c0, putC_n0, putC_cs, ble0, List.getElem?_cons_zero, List.getElem?_cons_succ, runU, isCall, wantV, vev, evV, ofVal, ofAtom, atomB, cond_true, cond_false, PT.get, PT.set, PT.filt, PT.map, Option.getD_some, Option.getD_none, ret1V, ret1X, v_ld, v_ias, v_iad, v_fad, v_slsl, v_slarr, v_st, v_app, v_cpy, v_clr, v_len, v_look, v_mset, elsV, partV, newV, free, atV, atI, atL, toVal, cellsV, okV, VSt.put, VSt.kill, VSt.alloc, VSt.frz, VSt.adopt, noref, norefB, deadB, deadV, nos, nm, nmL, nmB, nmE, Pa.eqb, Bool.not_false, Bool.not_true, Bool.and_true, Bool.true_and, Bool.false_and, Bool.and_false, bin, intOps, intBin, cvt, un, goInt, bndsV, bndV, Option.map_some, Option.map_none, List.map_cons, List.map_nil, Int.toNat_natCast, Nat.mul_one, Nat.zero_add, beq_true, beq_false, beq_self_eq_true, List.length_map, List.length_cons, List.length_nil, List.length_append, fillV, pEvV, repsV, List.append_nil, List.nil_append, if_pos, if_neg, reduceIte, List.getElem?_map, List.getElem?_drop, Nat.add_zero, List.getElem?_eq_getElem, Go.IntWalk.i64_in, wrap_u64, tmod_pos, eq_self, true_and, and_true, and_self, List.all_cons, List.all_nil, nmL_vi, flV_len, flP_len, flV_nm, flV_ok, flV_pv, flP_map, drop_flP, drop_flV, putC_flV, eqV2, eqV3, bneT, bneF, decide_true, decide_false, frzL_vi, frzL_flV, nmE_ag, nmE_at, frzE_ag, frzE_at, ofAg_len, ofAt_len, atL_vi, nmL_map_p, frzL_map_p, okL_p, toPVs_p, repsZ, nmL_reps, putC_vi, get_flV0, get_flV1, Int.toNat_zero, Int.toNat_one, Int.reduceToNat, eqV_slice, eqV_ptr, eqV_func, nilS, nilP, nilF, nmL_append, okL_vi, toPVs_vi, toPVs, toPV, frzV, frzL, frzB, resVV, vi, vb, nilV, sl1, bl1, pi, foldV, max2, min2, max_eq, min_eq, Int.tdiv_eq_ediv_of_nonneg, Int.cast_ofNat_Int, Option.isSome_none, Option.isSome_some, Option.isNone_none, Option.isNone_some, and_false, false_and, sl2, sl1P, slP, min_cast, take_map_pi, map_pi, Nat.sub_zero, Nat.zero_mul, List.length_take, decide_eq_true, decide_eq_false, Bool.true_eq_false, Bool.false_eq_true, beqT, beqF, ibeq, ibne, List.take_zero, List.take_succ_cons, List.drop_zero, List.drop_succ_cons, List.drop_nil, List.take_nil, List.cons_append, Bool.not_true, Bool.not_false, hgs, hor1]); rfl))); (repeat (first | refine VC.seq ?_ | refine VC.block ?_ | refine VC.kill ?_ | refine VC.skip ?_ | refine VC.exit ?_ | refine VC.regA ?_ | refine VC.condT ?_ | refine VC.condF ?_)))
        refine ⟨_, i + 1, ?_, ⟨rfl, by omega⟩, ?_⟩
        · omega
        · (apply Go.Ab.V.G.weak; constructor <;> simp (config := {decide := true}) only [PT.Le, inV, mkB, PT.set, VSt.kill, VSt.adopt, VSt.alloc, PT.filt, PT.map, List.map_cons, List.map_nil, noref, norefB, deadB, deadV, nos, nm, nmL, nmB, nmE, Pa.eqb, cond_true, cond_false, Bool.not_true, Bool.not_false, Bool.and_true, Bool.true_and, nmL_vi, flV_len, flP_len, flV_nm, flV_ok, flV_pv, flP_map, drop_flP, drop_flV, putC_flV, eqV2, eqV3, bneT, bneF, decide_true, decide_false, frzL_vi, frzL_flV, nmE_ag, nmE_at, frzE_ag, frzE_at, ofAg_len, ofAt_len, atL_vi, nmL_map_p, frzL_map_p, okL_p, toPVs_p, repsZ, nmL_reps, putC_vi, get_flV0, get_flV1, Int.toNat_zero, Int.toNat_one, Int.reduceToNat, eqV_slice, eqV_ptr, eqV_func, nilS, nilP, nilF, nmL_append, true_or, or_true, and_self, true_and, and_true, Option.some.injEq, reduceCtorEq, false_or, or_false, VV.p.injEq, PV.at.injEq, Value.int.injEq, sl1, vi, bl1, vb, nilV, sl1, hft])
          (all_goals first | rfl | omega | exact ⟨rfl, by omega⟩)
      · have h' : i = (bitsN S).length := by omega
        have hend := hend h'
        subst hend
        clear hft hacc ha hA
        have hpl : (bitsL (pieces nd S)).length = (bitsN (pieces nd S)).length := by simp [bitsL]
        have hb10 := bitsN_len (pieces nd S)
        have hPg : ∀ (k : Nat) (h : k < (bitsN (pieces nd S)).length), (bitsN (pieces nd S))[k] < c.cost.length := fun k h => hpb _ (List.getElem_mem h)
        have hPi : ∀ (k : Nat) (h : k < (bitsL (pieces nd S)).length) (h2 : k < (bitsN (pieces nd S)).length), (bitsL (pieces nd S))[k] = (((bitsN (pieces nd S))[k] : Nat) : Int) := fun k h _ => bitsL_get _ k h
        (repeat (first | refine VC.seq ?_ | refine VC.block ?_ | refine VC.kill ?_ | refine VC.skip ?_ | refine VC.exit ?_ | refine VC.regA ?_ | refine VC.condT ?_ | refine VC.condF ?_))
        (refine VC.regCA ?_; refine VO.moreA ?_; refine VO.call0A (no_orc _ (by decide)) hP ?_; refine VO.endA ?_; (repeat (first | refine VC.seq ?_ | refine VC.block ?_ | refine VC.kill ?_ | refine VC.skip ?_ | refine VC.exit ?_ | refine VC.regA ?_ | refine VC.condT ?_ | refine VC.condF ?_)))
        clear hk hP hend hpb
        generalize hB : bitsN (pieces nd S) = B at *
        generalize hX : bitsL (pieces nd S) = X at *
        have htk : ∀ (k : Nat) (h : k < B.length), (B.take (k + 1)).map (fun p => c.cost.getD p 0) = (B.take k).map (fun p => c.cost.getD p 0) ++ [c.cost.getD B[k] 0] := fun k h => by rw [List.take_add_one, List.getElem?_eq_getElem h, List.map_append]; rfl
        have hll : ∀ k, k ≤ B.length → ((B.take k).map (fun p => c.cost.getD p 0)).length = k := fun k hk => by rw [List.length_map, List.length_take]; omega
        refine VC.loopG (fun (k : Nat) => ⟨inV [p0, p1, p10, p41, p42, p43] [.op 0 p16 0, vi S, .os 1 p57 k, sl1 X, vi X.length, vi k] .lf, mkB [(p16, .cells (flC c nd p14)), (p14, .map (esM M)), (p57, .cells (((B.take k).map (fun p => c.cost.getD p 0)).map vi))] .lf, [p16, p14], none⟩) (fun n k => n = B.length - k ∧ k ≤ B.length) (x := 0) ?_ ⟨rfl, Nat.zero_le _⟩ ?_
        · refine G.adoptA (p := p10) 1 p57 ?_
          (apply Go.Ab.V.G.weak; constructor <;> simp (config := {decide := true}) only [PT.Le, inV, mkB, PT.set, VSt.kill, VSt.adopt, VSt.alloc, PT.filt, PT.map, List.map_cons, List.map_nil, noref, norefB, deadB, deadV, nos, nm, nmL, nmB, nmE, Pa.eqb, cond_true, cond_false, Bool.not_true, Bool.not_false, Bool.and_true, Bool.true_and, nmL_vi, flV_len, flP_len, flV_nm, flV_ok, flV_pv, flP_map, drop_flP, drop_flV, putC_flV, eqV2, eqV3, bneT, bneF, decide_true, decide_false, frzL_vi, frzL_flV, nmE_ag, nmE_at, frzE_ag, frzE_at, ofAg_len, ofAt_len, atL_vi, nmL_map_p, frzL_map_p, okL_p, toPVs_p, repsZ, nmL_reps, putC_vi, get_flV0, get_flV1, Int.toNat_zero, Int.toNat_one, Int.reduceToNat, eqV_slice, eqV_ptr, eqV_func, nilS, nilP, nilF, nmL_append, true_or, or_true, and_self, true_and, and_true, Option.some.injEq, reduceCtorEq, false_or, or_false, VV.p.injEq, PV.at.injEq, Value.int.injEq, sl1, vi, bl1, vb, nilV, sl1, fl_nm, es_nm])
          (all_goals first | rfl | omega | exact ⟨rfl, by omega⟩)
        rintro n k ⟨hn, hk⟩
        simp only [inV, PT.set, mkB]
        have hlk := hll k hk
        have htk := htk k
        generalize hLL : (B.take k).map (fun p => c.cost.getD p 0) = LL at *
        (repeat (first | refine VC.seq ?_ | refine VC.block ?_ | refine VC.kill ?_ | refine VC.skip ?_ | refine VC.exit ?_ | refine VC.regA ?_ | refine VC.condT ?_ | refine VC.condF ?_))
        refine VC.condA ?_ ?_ <;> intro h2 <;> (simp only [decide_eq_true_eq, decide_eq_false_iff_not, bne_iff_ne, ne_eq, bne_eq_false_iff_eq, beq_iff_eq, beq_eq_false_iff_ne, Bool.not_eq_true', Bool.not_eq_false', Bool.and_eq_true, Bool.or_eq_true, Int.natCast_inj] at h2)
        · have h2 : k < B.length := by omega
          have h3 : k < X.length := by omega
          have hpi := hPi k h3 h2
          have hpg := hPg k h2
          have htk := htk h2
          generalize hp : B[k] = p at *
          have hcd : c.cost.getD p 0 = c.cost[p] := by rw [List.getD_eq_getElem?_getD, List.getElem?_eq_getElem hpg]; rfl
          rw [hcd] at htk
          have hf1 := hfl1 nd p14
          simp only [sl1] at hf1
          (repeat (first | refine VC.seq ?_ | refine VC.block ?_ | refine VC.kill ?_ | refine VC.skip ?_ | refine VC.exit ?_ | refine VC.regA ?_ | refine VC.condT ?_ | refine VC.condF ?_))
          simp only [hpi]
          ((try (apply VC.regU; · ((simp (config := {decide := false, maxSteps := 1000000}) (disch := omega) only [vev_call, putC_c0, putC_n0, putC_cs, ble0, List.getElem?_cons_zero, List.getElem?_cons_succ, runU, isCall, wantV, vev, evV, ofVal, ofAtom, atomB, cond_true, cond_false, PT.get, PT.set, PT.filt, PT.map, Option.getD_some, Option.getD_none, ret1V, ret1X, v_ld, v_ias, v_iad, v_fad, v_slsl, v_slarr, v_st, v_app, v_cpy, v_clr, v_len, v_look, v_mset, elsV, partV, newV, free, atV, atI, atL, toVal, cellsV, okV, VSt.put, VSt.kill, VSt.alloc, VSt.frz, VSt.adopt, noref, norefB, deadB, deadV, nos, nm, nmL, nmB, nmE, Pa.eqb, Bool.not_false, Bool.not_true, Bool.and_true, Bool.true_and, Bool.false_and, Bool.and_false, bin, intOps, intBin, cvt, un, goInt, bndsV, bndV, Option.map_some, Option.map_none, List.map_cons, List.map_nil, Int.toNat_natCast, Nat.mul_one, Nat.zero_add, beq_true, beq_false, beq_self_eq_true, List.length_map, List.length_cons, List.length_nil, List.length_append, fillV, pEvV, repsV, List.append_nil, List.nil_append, if_pos, if_neg, reduceIte, List.getElem?_map, List.getElem?_drop, Nat.add_zero, List.getElem?_eq_getElem, Go.IntWalk.i64_in, wrap_u64, tmod_pos, eq_self, true_and, and_true, and_self, List.all_cons, List.all_nil, nmL_vi, flV_len, flP_len, flV_nm, flV_ok, flV_pv, flP_map, drop_flP, drop_flV, putC_flV, eqV2, eqV3, bneT, bneF, decide_true, decide_false, frzL_vi, frzL_flV, nmE_ag, nmE_at, frzE_ag, frzE_at, ofAg_len, ofAt_len, atL_vi, nmL_map_p, frzL_map_p, okL_p, toPVs_p, repsZ, nmL_reps, putC_vi, get_flV0, get_flV1, Int.toNat_zero, Int.toNat_one, Int.reduceToNat, eqV_slice, eqV_ptr, eqV_func, nilS, nilP, nilF, nmL_append, okL_vi, toPVs_vi, toPVs, toPV, frzV, frzL, frzB, resVV, vi, vb, nilV, sl1, bl1, pi, foldV, max2, min2, max_eq, min_eq, Int.tdiv_eq_ediv_of_nonneg, Int.cast_ofNat_Int, Option.isSome_none, Option.isSome_some, Option.isNone_none, Option.isNone_some, and_false, false_and, sl2, sl1P, slP, min_cast, take_map_pi, map_pi, Nat.sub_zero, Nat.zero_mul, List.length_take, decide_eq_true, decide_eq_false, Bool.true_eq_false, Bool.false_eq_true, beqT, beqF, ibeq, ibne, List.take_zero, List.take_succ_cons, List.drop_zero, List.drop_succ_cons, List.drop_nil, List.take_nil, List.cons_append, Bool.not_true, Bool.not_false, hf1]); rfl))); (repeat (first | refine VC.seq ?_ | refine VC.block ?_ | refine VC.kill ?_ | refine VC.skip ?_ | refine VC.exit ?_ | refine VC.regA ?_ | refine VC.condT ?_ | refine VC.condF ?_)))
          refine ⟨_, k + 1, ?_, ⟨rfl, by omega⟩, ?_⟩
          · omega
          · (apply Go.Ab.V.G.weak; constructor <;> simp (config := {decide := true}) only [PT.Le, inV, mkB, PT.set, VSt.kill, VSt.adopt, VSt.alloc, PT.filt, PT.map, List.map_cons, List.map_nil, noref, norefB, deadB, deadV, nos, nm, nmL, nmB, nmE, Pa.eqb, cond_true, cond_false, Bool.not_true, Bool.not_false, Bool.and_true, Bool.true_and, nmL_vi, flV_len, flP_len, flV_nm, flV_ok, flV_pv, flP_map, drop_flP, drop_flV, putC_flV, eqV2, eqV3, bneT, bneF, decide_true, decide_false, frzL_vi, frzL_flV, nmE_ag, nmE_at, frzE_ag, frzE_at, ofAg_len, ofAt_len, atL_vi, nmL_map_p, frzL_map_p, okL_p, toPVs_p, repsZ, nmL_reps, putC_vi, get_flV0, get_flV1, Int.toNat_zero, Int.toNat_one, Int.reduceToNat, eqV_slice, eqV_ptr, eqV_func, nilS, nilP, nilF, nmL_append, true_or, or_true, and_self, true_and, and_true, Option.some.injEq, reduceCtorEq, false_or, or_false, VV.p.injEq, PV.at.injEq, Value.int.injEq, sl1, vi, bl1, vb, nilV, sl1, htk, List.map_append, fl_nm, es_nm])
            (all_goals first | rfl | omega | exact ⟨rfl, by omega⟩)
        · have h2 : k = B.length := by omega
          subst h2
          rw [List.take_length] at hLL
          have hsum := sum_ok LL (by omega) (fun x hx => by
            rw [← hLL] at hx
            obtain ⟨p, _, rfl⟩ := List.mem_map.1 hx
            have := cost_getD h p
            omega)
          have hcost : sumL LL = costS c S := by rw [hcs, ← hLL, ← hB]; rfl
          rw [hcost] at hsum
          have hnb : M.any (fun q => decide (q.1 = S)) = false := hany
          have hset := set_esM M S (vi (costS c S)) hnb
          have hmm : memo c M S = M ++ [(S, costS c S)] := by unfold memo; rw [if_neg (by rw [hany]; simp)]
          have hfind2 := find_esM c (memo c M S) S (okM_memo hM S)
          have hany2 : (memo c M S).any (fun q => decide (q.1 = S)) = true := by rw [hmm, List.any_append]; simp
          rw [hany2] at hfind2
          simp only [if_true] at hfind2
          rw [hmm, esM_snoc] at hfind2
          rw [hmm, esM_snoc]
          (repeat (first | refine VC.seq ?_ | refine VC.block ?_ | refine VC.kill ?_ | refine VC.skip ?_ | refine VC.exit ?_ | refine VC.regA ?_ | refine VC.condT ?_ | refine VC.condF ?_))
          refine VC.frzA p57 (hb := rfl) (hc := toPVs_vi LL) ?_
          simp only [VSt.frz, PT.map, frzL, frzV, frzB, Option.map_some, Option.map_none, fl_frz, es_frz, PT.set, PT.filt, VSt.kill, Pa.eqb, cond_true, cond_false, Bool.and_true, Bool.and_false, Bool.false_and, Bool.true_and]
          refine VC.planP [p16] rfl ?_
          (apply VPl.run; · ((simp (config := {decide := false, maxSteps := 1000000}) (disch := omega) only [vev_call, putC_c0, putC_n0, putC_cs, ble0, List.getElem?_cons_zero, List.getElem?_cons_succ, runU, isCall, wantV, vev, evV, ofVal, ofAtom, atomB, cond_true, cond_false, PT.get, PT.set, PT.filt, PT.map, Option.getD_some, Option.getD_none, ret1V, ret1X, v_ld, v_ias, v_iad, v_fad, v_slsl, v_slarr, v_st, v_app, v_cpy, v_clr, v_len, v_look, v_mset, elsV, partV, newV, free, atV, atI, atL, toVal, cellsV, okV, VSt.put, VSt.kill, VSt.alloc, VSt.frz, VSt.adopt, noref, norefB, deadB, deadV, nos, nm, nmL, nmB, nmE, Pa.eqb, Bool.not_false, Bool.not_true, Bool.and_true, Bool.true_and, Bool.false_and, Bool.and_false, bin, intOps, intBin, cvt, un, goInt, bndsV, bndV, Option.map_some, Option.map_none, List.map_cons, List.map_nil, Int.toNat_natCast, Nat.mul_one, Nat.zero_add, beq_true, beq_false, beq_self_eq_true, List.length_map, List.length_cons, List.length_nil, List.length_append, fillV, pEvV, repsV, List.append_nil, List.nil_append, if_pos, if_neg, reduceIte, List.getElem?_map, List.getElem?_drop, Nat.add_zero, List.getElem?_eq_getElem, Go.IntWalk.i64_in, wrap_u64, tmod_pos, eq_self, true_and, and_true, and_self, List.all_cons, List.all_nil, nmL_vi, flV_len, flP_len, flV_nm, flV_ok, flV_pv, flP_map, drop_flP, drop_flV, putC_flV, eqV2, eqV3, bneT, bneF, decide_true, decide_false, frzL_vi, frzL_flV, nmE_ag, nmE_at, frzE_ag, frzE_at, ofAg_len, ofAt_len, atL_vi, nmL_map_p, frzL_map_p, okL_p, toPVs_p, repsZ, nmL_reps, putC_vi, get_flV0, get_flV1, Int.toNat_zero, Int.toNat_one, Int.reduceToNat, eqV_slice, eqV_ptr, eqV_func, nilS, nilP, nilF, nmL_append, okL_vi, toPVs_vi, toPVs, toPV, frzV, frzL, frzB, resVV, vi, vb, nilV, sl1, bl1, pi, foldV, max2, min2, max_eq, min_eq, Int.tdiv_eq_ediv_of_nonneg, Int.cast_ofNat_Int, Option.isSome_none, Option.isSome_some, Option.isNone_none, Option.isNone_some, and_false, false_and, sl2, sl1P, slP, min_cast, take_map_pi, map_pi, Nat.sub_zero, Nat.zero_mul, List.length_take, decide_eq_true, decide_eq_false, Bool.true_eq_false, Bool.false_eq_true, beqT, beqF, ibeq, ibne, List.take_zero, List.take_succ_cons, List.drop_zero, List.drop_succ_cons, List.drop_nil, List.take_nil, List.cons_append, Bool.not_true, Bool.not_false, runP, pur, lookB, okPl, okPl1, List.any_cons, List.any_nil, Nat.reduceBEq, Nat.reduceEqDiff, beq_self_eq_true, Bool.or_false, Bool.or_true, Bool.false_or, Bool.true_or, Bool.not_true, Bool.not_false, Bool.and_true, Bool.true_and, Nat.zero_add, Nat.reduceAdd, nos, Pa.eqb, hmap]); rfl))
          refine VPl.call (no_orc 71 (by decide)) hsum ?_ rfl rfl rfl ?_
          · (simp (config := {decide := false, maxSteps := 1000000}) (disch := omega) only [vev_call, putC_c0, putC_n0, putC_cs, ble0, List.getElem?_cons_zero, List.getElem?_cons_succ, runU, isCall, wantV, vev, evV, ofVal, ofAtom, atomB, cond_true, cond_false, PT.get, PT.set, PT.filt, PT.map, Option.getD_some, Option.getD_none, ret1V, ret1X, v_ld, v_ias, v_iad, v_fad, v_slsl, v_slarr, v_st, v_app, v_cpy, v_clr, v_len, v_look, v_mset, elsV, partV, newV, free, atV, atI, atL, toVal, cellsV, okV, VSt.put, VSt.kill, VSt.alloc, VSt.frz, VSt.adopt, noref, norefB, deadB, deadV, nos, nm, nmL, nmB, nmE, Pa.eqb, Bool.not_false, Bool.not_true, Bool.and_true, Bool.true_and, Bool.false_and, Bool.and_false, bin, intOps, intBin, cvt, un, goInt, bndsV, bndV, Option.map_some, Option.map_none, List.map_cons, List.map_nil, Int.toNat_natCast, Nat.mul_one, Nat.zero_add, beq_true, beq_false, beq_self_eq_true, List.length_map, List.length_cons, List.length_nil, List.length_append, fillV, pEvV, repsV, List.append_nil, List.nil_append, if_pos, if_neg, reduceIte, List.getElem?_map, List.getElem?_drop, Nat.add_zero, List.getElem?_eq_getElem, Go.IntWalk.i64_in, wrap_u64, tmod_pos, eq_self, true_and, and_true, and_self, List.all_cons, List.all_nil, nmL_vi, flV_len, flP_len, flV_nm, flV_ok, flV_pv, flP_map, drop_flP, drop_flV, putC_flV, eqV2, eqV3, bneT, bneF, decide_true, decide_false, frzL_vi, frzL_flV, nmE_ag, nmE_at, frzE_ag, frzE_at, ofAg_len, ofAt_len, atL_vi, nmL_map_p, frzL_map_p, okL_p, toPVs_p, repsZ, nmL_reps, putC_vi, get_flV0, get_flV1, Int.toNat_zero, Int.toNat_one, Int.reduceToNat, eqV_slice, eqV_ptr, eqV_func, nilS, nilP, nilF, nmL_append, okL_vi, toPVs_vi, toPVs, toPV, frzV, frzL, frzB, resVV, vi, vb, nilV, sl1, bl1, pi, foldV, max2, min2, max_eq, min_eq, Int.tdiv_eq_ediv_of_nonneg, Int.cast_ofNat_Int, Option.isSome_none, Option.isSome_some, Option.isNone_none, Option.isNone_some, and_false, false_and, sl2, sl1P, slP, min_cast, take_map_pi, map_pi, Nat.sub_zero, Nat.zero_mul, List.length_take, decide_eq_true, decide_eq_false, Bool.true_eq_false, Bool.false_eq_true, beqT, beqF, ibeq, ibne, List.take_zero, List.take_succ_cons, List.drop_zero, List.drop_succ_cons, List.drop_nil, List.take_nil, List.cons_append, Bool.not_true, Bool.not_false, hlk, sl1])
          (apply VPl.run; · ((simp (config := {decide := false, maxSteps := 1000000}) (disch := omega) only [vev_call, putC_c0, putC_n0, putC_cs, ble0, List.getElem?_cons_zero, List.getElem?_cons_succ, runU, isCall, wantV, vev, evV, ofVal, ofAtom, atomB, cond_true, cond_false, PT.get, PT.set, PT.filt, PT.map, Option.getD_some, Option.getD_none, ret1V, ret1X, v_ld, v_ias, v_iad, v_fad, v_slsl, v_slarr, v_st, v_app, v_cpy, v_clr, v_len, v_look, v_mset, elsV, partV, newV, free, atV, atI, atL, toVal, cellsV, okV, VSt.put, VSt.kill, VSt.alloc, VSt.frz, VSt.adopt, noref, norefB, deadB, deadV, nos, nm, nmL, nmB, nmE, Pa.eqb, Bool.not_false, Bool.not_true, Bool.and_true, Bool.true_and, Bool.false_and, Bool.and_false, bin, intOps, intBin, cvt, un, goInt, bndsV, bndV, Option.map_some, Option.map_none, List.map_cons, List.map_nil, Int.toNat_natCast, Nat.mul_one, Nat.zero_add, beq_true, beq_false, beq_self_eq_true, List.length_map, List.length_cons, List.length_nil, List.length_append, fillV, pEvV, repsV, List.append_nil, List.nil_append, if_pos, if_neg, reduceIte, List.getElem?_map, List.getElem?_drop, Nat.add_zero, List.getElem?_eq_getElem, Go.IntWalk.i64_in, wrap_u64, tmod_pos, eq_self, true_and, and_true, and_self, List.all_cons, List.all_nil, nmL_vi, flV_len, flP_len, flV_nm, flV_ok, flV_pv, flP_map, drop_flP, drop_flV, putC_flV, eqV2, eqV3, bneT, bneF, decide_true, decide_false, frzL_vi, frzL_flV, nmE_ag, nmE_at, frzE_ag, frzE_at, ofAg_len, ofAt_len, atL_vi, nmL_map_p, frzL_map_p, okL_p, toPVs_p, repsZ, nmL_reps, putC_vi, get_flV0, get_flV1, Int.toNat_zero, Int.toNat_one, Int.reduceToNat, eqV_slice, eqV_ptr, eqV_func, nilS, nilP, nilF, nmL_append, okL_vi, toPVs_vi, toPVs, toPV, frzV, frzL, frzB, resVV, vi, vb, nilV, sl1, bl1, pi, foldV, max2, min2, max_eq, min_eq, Int.tdiv_eq_ediv_of_nonneg, Int.cast_ofNat_Int, Option.isSome_none, Option.isSome_some, Option.isNone_none, Option.isNone_some, and_false, false_and, sl2, sl1P, slP, min_cast, take_map_pi, map_pi, Nat.sub_zero, Nat.zero_mul, List.length_take, decide_eq_true, decide_eq_false, Bool.true_eq_false, Bool.false_eq_true, beqT, beqF, ibeq, ibne, List.take_zero, List.take_succ_cons, List.drop_zero, List.drop_succ_cons, List.drop_nil, List.take_nil, List.cons_append, Bool.not_true, Bool.not_false, runP, pur, lookB, okPl, okPl1, List.any_cons, List.any_nil, Nat.reduceBEq, Nat.reduceEqDiff, beq_self_eq_true, Bool.or_false, Bool.or_true, Bool.false_or, Bool.true_or, Bool.not_true, Bool.not_false, Bool.and_true, Bool.true_and, Nat.zero_add, Nat.reduceAdd, nos, Pa.eqb]); rfl))
          refine VPl.stop (by decide) ?_
          apply VO.uptoE
          · simp only [vi] at hset
            (simp (config := {decide := false, maxSteps := 1000000}) (disch := omega) only [vev_call, putC_c0, putC_n0, putC_cs, ble0, List.getElem?_cons_zero, List.getElem?_cons_succ, runU, isCall, wantV, vev, evV, ofVal, ofAtom, atomB, cond_true, cond_false, PT.get, PT.set, PT.filt, PT.map, Option.getD_some, Option.getD_none, ret1V, ret1X, v_ld, v_ias, v_iad, v_fad, v_slsl, v_slarr, v_st, v_app, v_cpy, v_clr, v_len, v_look, v_mset, elsV, partV, newV, free, atV, atI, atL, toVal, cellsV, okV, VSt.put, VSt.kill, VSt.alloc, VSt.frz, VSt.adopt, noref, norefB, deadB, deadV, nos, nm, nmL, nmB, nmE, Pa.eqb, Bool.not_false, Bool.not_true, Bool.and_true, Bool.true_and, Bool.false_and, Bool.and_false, bin, intOps, intBin, cvt, un, goInt, bndsV, bndV, Option.map_some, Option.map_none, List.map_cons, List.map_nil, Int.toNat_natCast, Nat.mul_one, Nat.zero_add, beq_true, beq_false, beq_self_eq_true, List.length_map, List.length_cons, List.length_nil, List.length_append, fillV, pEvV, repsV, List.append_nil, List.nil_append, if_pos, if_neg, reduceIte, List.getElem?_map, List.getElem?_drop, Nat.add_zero, List.getElem?_eq_getElem, Go.IntWalk.i64_in, wrap_u64, tmod_pos, eq_self, true_and, and_true, and_self, List.all_cons, List.all_nil, nmL_vi, flV_len, flP_len, flV_nm, flV_ok, flV_pv, flP_map, drop_flP, drop_flV, putC_flV, eqV2, eqV3, bneT, bneF, decide_true, decide_false, frzL_vi, frzL_flV, nmE_ag, nmE_at, frzE_ag, frzE_at, ofAg_len, ofAt_len, atL_vi, nmL_map_p, frzL_map_p, okL_p, toPVs_p, repsZ, nmL_reps, putC_vi, get_flV0, get_flV1, Int.toNat_zero, Int.toNat_one, Int.reduceToNat, eqV_slice, eqV_ptr, eqV_func, nilS, nilP, nilF, nmL_append, okL_vi, toPVs_vi, toPVs, toPV, frzV, frzL, frzB, resVV, vi, vb, nilV, sl1, bl1, pi, foldV, max2, min2, max_eq, min_eq, Int.tdiv_eq_ediv_of_nonneg, Int.cast_ofNat_Int, Option.isSome_none, Option.isSome_some, Option.isNone_none, Option.isNone_some, and_false, false_and, sl2, sl1P, slP, min_cast, take_map_pi, map_pi, Nat.sub_zero, Nat.zero_mul, List.length_take, decide_eq_true, decide_eq_false, Bool.true_eq_false, Bool.false_eq_true, beqT, beqF, ibeq, ibne, List.take_zero, List.take_succ_cons, List.drop_zero, List.drop_succ_cons, List.drop_nil, List.take_nil, List.cons_append, Bool.not_true, Bool.not_false, hkey, hfind, hset, Option.isSome_none, Option.isSome_some])
            rfl
          (repeat (first | refine VC.seq ?_ | refine VC.block ?_ | refine VC.kill ?_ | refine VC.skip ?_ | refine VC.exit ?_ | refine VC.regA ?_ | refine VC.condT ?_ | refine VC.condF ?_))
          simp only [vi] at hfind2
          ((try (apply VC.regU; · ((simp (config := {decide := false, maxSteps := 1000000}) (disch := omega) only [vev_call, putC_c0, putC_n0, putC_cs, ble0, List.getElem?_cons_zero, List.getElem?_cons_succ, runU, isCall, wantV, vev, evV, ofVal, ofAtom, atomB, cond_true, cond_false, PT.get, PT.set, PT.filt, PT.map, Option.getD_some, Option.getD_none, ret1V, ret1X, v_ld, v_ias, v_iad, v_fad, v_slsl, v_slarr, v_st, v_app, v_cpy, v_clr, v_len, v_look, v_mset, elsV, partV, newV, free, atV, atI, atL, toVal, cellsV, okV, VSt.put, VSt.kill, VSt.alloc, VSt.frz, VSt.adopt, noref, norefB, deadB, deadV, nos, nm, nmL, nmB, nmE, Pa.eqb, Bool.not_false, Bool.not_true, Bool.and_true, Bool.true_and, Bool.false_and, Bool.and_false, bin, intOps, intBin, cvt, un, goInt, bndsV, bndV, Option.map_some, Option.map_none, List.map_cons, List.map_nil, Int.toNat_natCast, Nat.mul_one, Nat.zero_add, beq_true, beq_false, beq_self_eq_true, List.length_map, List.length_cons, List.length_nil, List.length_append, fillV, pEvV, repsV, List.append_nil, List.nil_append, if_pos, if_neg, reduceIte, List.getElem?_map, List.getElem?_drop, Nat.add_zero, List.getElem?_eq_getElem, Go.IntWalk.i64_in, wrap_u64, tmod_pos, eq_self, true_and, and_true, and_self, List.all_cons, List.all_nil, nmL_vi, flV_len, flP_len, flV_nm, flV_ok, flV_pv, flP_map, drop_flP, drop_flV, putC_flV, eqV2, eqV3, bneT, bneF, decide_true, decide_false, frzL_vi, frzL_flV, nmE_ag, nmE_at, frzE_ag, frzE_at, ofAg_len, ofAt_len, atL_vi, nmL_map_p, frzL_map_p, okL_p, toPVs_p, repsZ, nmL_reps, putC_vi, get_flV0, get_flV1, Int.toNat_zero, Int.toNat_one, Int.reduceToNat, eqV_slice, eqV_ptr, eqV_func, nilS, nilP, nilF, nmL_append, okL_vi, toPVs_vi, toPVs, toPV, frzV, frzL, frzB, resVV, vi, vb, nilV, sl1, bl1, pi, foldV, max2, min2, max_eq, min_eq, Int.tdiv_eq_ediv_of_nonneg, Int.cast_ofNat_Int, Option.isSome_none, Option.isSome_some, Option.isNone_none, Option.isNone_some, and_false, false_and, sl2, sl1P, slP, min_cast, take_map_pi, map_pi, Nat.sub_zero, Nat.zero_mul, List.length_take, decide_eq_true, decide_eq_false, Bool.true_eq_false, Bool.false_eq_true, beqT, beqF, ibeq, ibne, List.take_zero, List.take_succ_cons, List.drop_zero, List.drop_succ_cons, List.drop_nil, List.take_nil, List.cons_append, Bool.not_true, Bool.not_false, hmap, hfind2, hkey]); rfl))); (repeat (first | refine VC.seq ?_ | refine VC.block ?_ | refine VC.kill ?_ | refine VC.skip ?_ | refine VC.exit ?_ | refine VC.regA ?_ | refine VC.condT ?_ | refine VC.condF ?_)))
          refine VC.ret (Fin.of rfl rfl ?_ rfl rfl ?_)
          · simp [mkB, PT.set, PT.Le, VSt.kill, vi]
          · have hnn : nmE (esM M ++ [(Value.int .i64 S, vi (costS c S))]) = [] := by rw [← esM_snoc]; exact es_nm _
            simp only [vi] at hnn
            simp [subs, nm, nmL, nmsB, nmB, hnn, fl_nm, nos, Pa.eqb, vi, sl1]
end Go.Ab.Dues

namespace Go.Ab.Dues
open Go.Ab.V
set_option maxRecDepth 100000
theorem fl_ships (c : Can) (nd : List Nat) (m : Pa) : (flC c nd m)[2]? = some (sl1 c.ships) := rfl
set_option maxHeartbeats 4000000 in
theorem all_ok (c : Can) (h7 : c.ships.length ≤ 7) (nd : List Nat) (es : List (Nat × Int)) :
    VCall cfg 57 [.op 0 p16 0] [(p16, .cells (flC c nd p14)), (p14, .map (esM es))] [] (vi ((2 ^ c.ships.length - 1 : Nat) : Int)) [(p16, .cells (flC c nd p14)), (p14, .map (esM es))] := by
  have hf := fl_ships c nd p14
  simp only [sl1] at hf
  have hm : (c.ships.length : Int) % 18446744073709551616 = c.ships.length := by omega
  have hs := shl_one (n := c.ships.length) (by omega)
  have hp : 2 ^ c.ships.length ≤ 2 ^ 7 := Nat.pow_le_pow_right (by decide) h7
  have hp0 : 0 < 2 ^ c.ships.length := Nat.pow_pos (by decide)
  have hp : 2 ^ c.ships.length ≤ 128 := hp
  generalize 2 ^ c.ships.length = w at *
  have hsub : (w : Int) - 1 = ((w - 1 : Nat) : Int) := by omega
  have hnm := fl_nm c nd p14
  generalize flC c nd p14 = FL at *
  (refine VCall.mk (fn := a57) rfl rfl rfl ?_; simp only [a57, inV, mkB, nmsL, PT.set])
  (repeat (first | refine VC.seq ?_ | refine VC.block ?_ | refine VC.kill ?_ | refine VC.skip ?_ | refine VC.exit ?_ | refine VC.regA ?_ | refine VC.condT ?_ | refine VC.condF ?_))
  ((try (apply VC.regU; · ((simp (config := {decide := false, maxSteps := 1000000}) (disch := omega) only [vev_call, putC_c0, putC_n0, putC_cs, ble0, List.getElem?_cons_zero, List.getElem?_cons_succ, runU, isCall, wantV, vev, evV, ofVal, ofAtom, atomB, cond_true, cond_false, PT.get, PT.set, PT.filt, PT.map, Option.getD_some, Option.getD_none, ret1V, ret1X, v_ld, v_ias, v_iad, v_fad, v_slsl, v_slarr, v_st, v_app, v_cpy, v_clr, v_len, v_look, v_mset, elsV, partV, newV, free, atV, atI, atL, toVal, cellsV, okV, VSt.put, VSt.kill, VSt.alloc, VSt.frz, VSt.adopt, noref, norefB, deadB, deadV, nos, nm, nmL, nmB, nmE, Pa.eqb, Bool.not_false, Bool.not_true, Bool.and_true, Bool.true_and, Bool.false_and, Bool.and_false, bin, intOps, intBin, cvt, un, goInt, bndsV, bndV, Option.map_some, Option.map_none, List.map_cons, List.map_nil, Int.toNat_natCast, Nat.mul_one, Nat.zero_add, beq_true, beq_false, beq_self_eq_true, List.length_map, List.length_cons, List.length_nil, List.length_append, fillV, pEvV, repsV, List.append_nil, List.nil_append, if_pos, if_neg, reduceIte, List.getElem?_map, List.getElem?_drop, Nat.add_zero, List.getElem?_eq_getElem, Go.IntWalk.i64_in, wrap_u64, tmod_pos, eq_self, true_and, and_true, and_self, List.all_cons, List.all_nil, nmL_vi, flV_len, flP_len, flV_nm, flV_ok, flV_pv, flP_map, drop_flP, drop_flV, putC_flV, eqV2, eqV3, bneT, bneF, decide_true, decide_false, frzL_vi, frzL_flV, nmE_ag, nmE_at, frzE_ag, frzE_at, ofAg_len, ofAt_len, atL_vi, nmL_map_p, frzL_map_p, okL_p, toPVs_p, repsZ, nmL_reps, putC_vi, get_flV0, get_flV1, Int.toNat_zero, Int.toNat_one, Int.reduceToNat, eqV_slice, eqV_ptr, eqV_func, nilS, nilP, nilF, nmL_append, okL_vi, toPVs_vi, toPVs, toPV, frzV, frzL, frzB, resVV, vi, vb, nilV, sl1, bl1, pi, foldV, max2, min2, max_eq, min_eq, Int.tdiv_eq_ediv_of_nonneg, Int.cast_ofNat_Int, Option.isSome_none, Option.isSome_some, Option.isNone_none, Option.isNone_some, and_false, false_and, sl2, sl1P, slP, min_cast, take_map_pi, map_pi, Nat.sub_zero, Nat.zero_mul, List.length_take, decide_eq_true, decide_eq_false, Bool.true_eq_false, Bool.false_eq_true, beqT, beqF, ibeq, ibne, List.take_zero, List.take_succ_cons, List.drop_zero, List.drop_succ_cons, List.drop_nil, List.take_nil, List.cons_append, Bool.not_true, Bool.not_false, hf, hm, hs]); rfl))); (repeat (first | refine VC.seq ?_ | refine VC.block ?_ | refine VC.kill ?_ | refine VC.skip ?_ | refine VC.exit ?_ | refine VC.regA ?_ | refine VC.condT ?_ | refine VC.condF ?_)))
  rw [← hsub]
  refine VC.ret (Fin.of rfl rfl ?_ rfl rfl ?_)
  · simp [mkB, PT.set, PT.Le, VSt.kill]
  · simp [subs, nm, vi, nmsB, nmB, hnm, es_nm, nos, Pa.eqb]
end Go.Ab.Dues

namespace Go.Ab.Dues
open Go.Ab.V
set_option maxRecDepth 100000
theorem bit_and (a p : Nat) : (a >>> p) &&& 1 = if a.testBit p = true then 1 else 0 := by
  rw [Nat.and_one_is_mod]
  have : a.testBit p = decide ((a >>> p) % 2 = 1) := by
    rw [Nat.testBit_eq_decide_div_mod_eq, Nat.shiftRight_eq_div_pow]
  rw [this]
  by_cases h : a >>> p % 2 = 1
  · rw [decide_eq_true h, if_pos rfl, h]
  · rw [decide_eq_false h, if_neg (by simp)]; omega
/-- How many of the first k ships need a piece. -/
def usersK (nd : List Nat) (p k : Nat) : Nat := ((List.range k).filter fun s => (nd.getD s 0).testBit p).length
theorem usersK_succ (nd : List Nat) (p k : Nat) : usersK nd p (k + 1) = usersK nd p k + (if (nd.getD k 0).testBit p = true then 1 else 0) := by
  unfold usersK
  rw [List.range_succ, List.filter_append, List.length_append, List.filter_cons]
  split <;> rfl
theorem usersK_le (nd : List Nat) (p k : Nat) : usersK nd p k ≤ k := by
  unfold usersK
  have := List.length_filter_le (fun s => (nd.getD s 0).testBit p) (List.range k)
  rw [List.length_range] at this; exact this
end Go.Ab.Dues

namespace Go.Ab.Dues
open Go.Ab.V
set_option maxRecDepth 100000
def piecesL (c : Can) (k : Nat) : List Int := (List.range k).map fun (p : Nat) => ((usersK (needK c c.ships.length) p c.ships.length : Nat) : Int)
theorem piecesL_len (c : Can) (k : Nat) : (piecesL c k).length = k := by simp [piecesL]
theorem sumL_pos : ∀ (l : List Int) (m : Nat), (∀ x ∈ l, 0 ≤ x ∧ x ≤ m) → 0 ≤ sumL l ∧ sumL l ≤ ((l.length * m : Nat) : Int) := fun l m h => by
  have key : ∀ i, i ≤ l.length → 0 ≤ sumL (l.take i) ∧ sumL (l.take i) ≤ ((i * m : Nat) : Int) := by
    intro i
    induction i with
    | zero => intro _; simp [sumL]
    | succ i ih =>
      intro hi
      have := ih (by omega)
      have hx := h _ (List.getElem_mem (show i < l.length by omega))
      rw [sumL_take (show i < l.length by omega), Nat.succ_mul]
      omega
  have := key l.length (Nat.le_refl _)
  rw [List.take_length] at this; exact this
theorem costS_bd {c : Can} (h : okC c) (S : Nat) : 0 ≤ costS c S ∧ costS c S ≤ 10000 := by
  have := sumL_pos ((bitsN (pieces (needK c c.ships.length) S)).map fun p => c.cost.getD p 0) 1000 (fun x hx => by
    obtain ⟨p, _, rfl⟩ := List.mem_map.1 hx
    exact cost_getD h p)
  rw [List.length_map] at this
  have hl := bitsN_len (pieces (needK c c.ships.length) S)
  have h2 : (bitsN (pieces (needK c c.ships.length) S)).length * 1000 ≤ 10 * 1000 := Nat.mul_le_mul_right _ hl
  unfold costS costP
  omega
end Go.Ab.Dues

namespace Go.Ab.Dues
open Go.Ab.V
set_option maxRecDepth 100000
/-- The equal share, in parts of 420. -/
def eqS (c : Can) (l : List Nat) : Nat := l.foldl (fun a p => a + (c.cost.getD p 0).toNat * (420 / usersK (needK c c.ships.length) p c.ships.length)) 0
def equalN (c : Can) (k : Nat) : List (Nat × Nat) := (List.range k).map fun s => nrm (eqS c (bitsN ((needK c c.ships.length).getD s 0))) 420
theorem equalN_succ (c : Can) (k : Nat) : equalN c (k + 1) = equalN c k ++ [nrm (eqS c (bitsN ((needK c c.ships.length).getD k 0))) 420] := by simp [equalN, List.range_succ]
theorem equalN_len (c : Can) (k : Nat) : (equalN c k).length = k := by simp [equalN]
theorem frI_len (l : List (Nat × Nat)) : (frI l).length = l.length := by simp [frI]
theorem frI_snoc (l : List (Nat × Nat)) (q : Nat × Nat) : flV (frI (l ++ [q])) = flV (frI l) ++ [vi q.1, vi q.2] := by
  unfold frI; rw [List.map_append]; exact flV_snoc _ _ _
theorem usersK_pos {nd : List Nat} {p m s : Nat} (hs : s < m) (hb : (nd.getD s 0).testBit p = true) : 0 < usersK nd p m := by
  unfold usersK
  exact List.length_pos_of_mem (a := s) (List.mem_filter.2 ⟨List.mem_range.2 hs, hb⟩)
theorem eqS_snoc (c : Can) (l : List Nat) (i : Nat) (h : i < l.length) : eqS c (l.take (i + 1)) = eqS c (l.take i) + (c.cost.getD l[i] 0).toNat * (420 / usersK (needK c c.ships.length) l[i] c.ships.length) := fold_take _ _ _ _ h
theorem eqS_bd {c : Can} (h : okC c) (l : List Nat) : ∀ i, i ≤ l.length → eqS c (l.take i) ≤ i * 420000
  | 0, _ => by simp [eqS]
  | i + 1, hi => by
    have ih := eqS_bd h l i (by omega)
    rw [eqS_snoc c l i (by omega)]
    have := cost_getD h (l[i])
    have h2 : 420 / usersK (needK c c.ships.length) l[i] c.ships.length ≤ 420 := Nat.div_le_self ..
    have h3 := Nat.mul_le_mul (show (c.cost.getD l[i] 0).toNat ≤ 1000 by omega) h2
    omega
end Go.Ab.Dues

namespace Go.Ab.Dues
open Go.Ab.V
set_option maxRecDepth 100000
def bitsTo (S i : Nat) : List Nat := (List.range i).filter fun k => S.testBit k
theorem bitsTo_succ (S i : Nat) : bitsTo S (i + 1) = if S.testBit i = true then bitsTo S i ++ [i] else bitsTo S i := by
  unfold bitsTo
  rw [List.range_succ, List.filter_append, List.filter_cons]
  split <;> simp
theorem bitsTo_end {S i : Nat} (h : S < 2 ^ i) (hi : i ≤ 10) : bitsTo S i = bitsN S := by
  have : ∀ k, k ≤ 10 - i → bitsTo S (i + k) = bitsTo S i := by
    intro k
    induction k with
    | zero => intro _; rfl
    | succ k ih =>
      intro hk
      rw [show i + (k + 1) = (i + k) + 1 from rfl, bitsTo_succ, if_neg, ih (by omega)]
      rw [Nat.testBit_lt_two_pow (Nat.lt_of_lt_of_le h (Nat.pow_le_pow_right (by decide) (by omega)))]; simp
  have := this (10 - i) (Nat.le_refl _)
  rw [show i + (10 - i) = 10 from by omega] at this
  rw [← this]; rfl
theorem bitsTo_len (S i : Nat) : (bitsTo S i).length ≤ i := by
  unfold bitsTo
  have := List.length_filter_le (fun k => S.testBit k) (List.range i)
  rw [List.length_range] at this; exact this
theorem bit_mod (a p : Nat) : (a >>> p) % 2 = if a.testBit p = true then 1 else 0 := by
  rw [← Nat.and_one_is_mod, bit_and]
theorem fdivI {a : Nat} {p : Nat} (hp : p < 64) : ((a : Nat) : Int).fdiv (2 ^ min ((p : Int)).toNat IntKind.i64.bits) = ((a >>> p : Nat) : Int) := by
  have e : ((2 : Int) ^ p) = ((2 ^ p : Nat) : Int) := by simp
  rw [bits_i64, Int.toNat_natCast, Nat.min_eq_left (by omega), e, Int.fdiv_eq_ediv_of_nonneg _ (Int.natCast_nonneg _), ← Int.natCast_ediv, Nat.shiftRight_eq_div_pow]
theorem canNeed {c : Can} {s : Nat} (hs : s < c.ships.length) : c.ships.getD s (-1) = c.ships[s] := by rw [List.getD_eq_getElem?_getD, List.getElem?_eq_getElem hs]; rfl
theorem shl_w {q : Nat} (h : q < 62) : IntKind.i64.wrap (1 * 2 ^ min q IntKind.i64.bits) = ((2 ^ q : Nat) : Int) := by
  have := shl_one h
  unfold shlA at this
  rw [if_neg (by omega), Int.toNat_natCast] at this
  injection this with this
  injection this
set_option maxHeartbeats 4000000 in
theorem RNeeds_ok (c : Can) (h : okC c) (s : Nat) (hs : s < c.ships.length) : VCall cfg 34 [canV c, vi s] [] [] (vi (ch c (c.ships.getD s (-1)) : Nat)) [] := by
  rw [canNeed hs]
  have hsh := h.ship _ (List.getElem_mem hs)
  have h10 := h.n10
  have h7 := h.s7
  generalize hp0 : c.ships[s] = p0 at *
  unfold canV
  (refine VCall.mk (fn := a34) rfl rfl rfl ?_; simp only [a34, inV, mkB, nmsL, PT.set])
  (repeat (first | refine VC.seq ?_ | refine VC.block ?_ | refine VC.kill ?_ | refine VC.skip ?_ | refine VC.exit ?_ | refine VC.regA ?_ | refine VC.condT ?_ | refine VC.condF ?_))
  simp only [hp0]
  refine VC.loopG (fun (q : Nat × Int) => ⟨inV [p2, p5, p6] [.op 0 p2 0, vi (q.1 : Nat), vi q.2] .lf, mkB [(p2, .cells [sl1 c.up, sl1 c.cost, sl1 c.ships])] .lf, [], none⟩) (fun n q => n = (q.2 + 1).toNat ∧ -1 ≤ q.2 ∧ q.2 < c.up.length ∧ q.1 < 1024 ∧ q.1 ||| ch c q.2 = ch c p0) (x := (0, p0)) ?_ ⟨rfl, by simp only; omega, hsh.2, by simp, by simp⟩ ?_
  · (apply Go.Ab.V.G.weak; constructor <;> simp (config := {decide := true}) only [PT.Le, inV, mkB, PT.set, VSt.kill, VSt.adopt, VSt.alloc, PT.filt, PT.map, List.map_cons, List.map_nil, noref, norefB, deadB, deadV, nos, nm, nmL, nmB, nmE, Pa.eqb, cond_true, cond_false, Bool.not_true, Bool.not_false, Bool.and_true, Bool.true_and, nmL_vi, flV_len, flP_len, flV_nm, flV_ok, flV_pv, flP_map, drop_flP, drop_flV, putC_flV, eqV2, eqV3, bneT, bneF, decide_true, decide_false, frzL_vi, frzL_flV, nmE_ag, nmE_at, frzE_ag, frzE_at, ofAg_len, ofAt_len, atL_vi, nmL_map_p, frzL_map_p, okL_p, toPVs_p, repsZ, nmL_reps, putC_vi, get_flV0, get_flV1, Int.toNat_zero, Int.toNat_one, Int.reduceToNat, eqV_slice, eqV_ptr, eqV_func, nilS, nilP, nilF, nmL_append, true_or, or_true, and_self, true_and, and_true, Option.some.injEq, reduceCtorEq, false_or, or_false, VV.p.injEq, PV.at.injEq, Value.int.injEq, sl1, vi, bl1, vb, nilV, sl1])
    (all_goals first | rfl | omega | exact ⟨rfl, by omega⟩)
  rintro n' ⟨acc, p⟩ ⟨hn', hp0', hp1, hacc, hor⟩
  simp only at hn' hp0' hp1 hacc hor
  simp only [inV, PT.set, mkB]
  (repeat (first | refine VC.seq ?_ | refine VC.block ?_ | refine VC.kill ?_ | refine VC.skip ?_ | refine VC.exit ?_ | refine VC.regA ?_ | refine VC.condT ?_ | refine VC.condF ?_))
  refine VC.condA ?_ ?_ <;> intro h2 <;> (simp only [decide_eq_true_eq, decide_eq_false_iff_not, bne_iff_ne, ne_eq, bne_eq_false_iff_eq, beq_iff_eq, beq_eq_false_iff_ne, Bool.not_eq_true', Bool.not_eq_false', Bool.and_eq_true, Bool.or_eq_true, Int.natCast_inj] at h2)
  · obtain ⟨q, rfl⟩ := Int.eq_ofNat_of_zero_le h2
    have hq : q < c.up.length := by omega
    have hu := up_get h hq
    rw [List.getD_eq_getElem?_getD, List.getElem?_eq_getElem hq, Option.getD_some] at hu
    have hstep := ch_step h hq
    have hsh1 := shl_one (n := q) (by omega)
    have hp10 : 2 ^ q < 1024 := Nat.pow_lt_pow_right (n := 10) (by decide) (by omega)
    have hor1 := or_i64 (a := acc) (b := 2 ^ q) (by omega) (by omega)
    (repeat (first | refine VC.seq ?_ | refine VC.block ?_ | refine VC.kill ?_ | refine VC.skip ?_ | refine VC.exit ?_ | refine VC.regA ?_ | refine VC.condT ?_ | refine VC.condF ?_))
    ((try (apply VC.regU; · ((simp (config := {decide := false, maxSteps := 1000000}) (disch := omega) only [vev_call, putC_c0, putC_n0, putC_cs, ble0, List.getElem?_cons_zero, List.getElem?_cons_succ, runU, isCall, wantV, vev, evV, ofVal, ofAtom, atomB, cond_true, cond_false, PT.get, PT.set, PT.filt, PT.map, Option.getD_some, Option.getD_none, ret1V, ret1X, v_ld, v_ias, v_iad, v_fad, v_slsl, v_slarr, v_st, v_app, v_cpy, v_clr, v_len, v_look, v_mset, elsV, partV, newV, free, atV, atI, atL, toVal, cellsV, okV, VSt.put, VSt.kill, VSt.alloc, VSt.frz, VSt.adopt, noref, norefB, deadB, deadV, nos, nm, nmL, nmB, nmE, Pa.eqb, Bool.not_false, Bool.not_true, Bool.and_true, Bool.true_and, Bool.false_and, Bool.and_false, bin, intOps, intBin, cvt, un, goInt, bndsV, bndV, Option.map_some, Option.map_none, List.map_cons, List.map_nil, Int.toNat_natCast, Nat.mul_one, Nat.zero_add, beq_true, beq_false, beq_self_eq_true, List.length_map, List.length_cons, List.length_nil, List.length_append, fillV, pEvV, repsV, List.append_nil, List.nil_append, if_pos, if_neg, reduceIte, List.getElem?_map, List.getElem?_drop, Nat.add_zero, List.getElem?_eq_getElem, Go.IntWalk.i64_in, wrap_u64, tmod_pos, eq_self, true_and, and_true, and_self, List.all_cons, List.all_nil, nmL_vi, flV_len, flP_len, flV_nm, flV_ok, flV_pv, flP_map, drop_flP, drop_flV, putC_flV, eqV2, eqV3, bneT, bneF, decide_true, decide_false, frzL_vi, frzL_flV, nmE_ag, nmE_at, frzE_ag, frzE_at, ofAg_len, ofAt_len, atL_vi, nmL_map_p, frzL_map_p, okL_p, toPVs_p, repsZ, nmL_reps, putC_vi, get_flV0, get_flV1, Int.toNat_zero, Int.toNat_one, Int.reduceToNat, eqV_slice, eqV_ptr, eqV_func, nilS, nilP, nilF, nmL_append, okL_vi, toPVs_vi, toPVs, toPV, frzV, frzL, frzB, resVV, vi, vb, nilV, sl1, bl1, pi, foldV, max2, min2, max_eq, min_eq, Int.tdiv_eq_ediv_of_nonneg, Int.cast_ofNat_Int, Option.isSome_none, Option.isSome_some, Option.isNone_none, Option.isNone_some, and_false, false_and, sl2, sl1P, slP, min_cast, take_map_pi, map_pi, Nat.sub_zero, Nat.zero_mul, List.length_take, decide_eq_true, decide_eq_false, Bool.true_eq_false, Bool.false_eq_true, beqT, beqF, ibeq, ibne, List.take_zero, List.take_succ_cons, List.drop_zero, List.drop_succ_cons, List.drop_nil, List.take_nil, List.cons_append, Bool.not_true, Bool.not_false, hsh1, hor1]); rfl))); (repeat (first | refine VC.seq ?_ | refine VC.block ?_ | refine VC.kill ?_ | refine VC.skip ?_ | refine VC.exit ?_ | refine VC.regA ?_ | refine VC.condT ?_ | refine VC.condF ?_)))
    refine ⟨_, (acc ||| 2 ^ q, c.up[q]), ?_, ⟨rfl, by simp only; omega, by simp only; omega, or_lt (m := 10) hacc hp10, ?_⟩, ?_⟩
    · simp only; omega
    · simp only
      rw [← hor, hstep, Nat.or_assoc]
    · (apply Go.Ab.V.G.weak; constructor <;> simp (config := {decide := true}) only [PT.Le, inV, mkB, PT.set, VSt.kill, VSt.adopt, VSt.alloc, PT.filt, PT.map, List.map_cons, List.map_nil, noref, norefB, deadB, deadV, nos, nm, nmL, nmB, nmE, Pa.eqb, cond_true, cond_false, Bool.not_true, Bool.not_false, Bool.and_true, Bool.true_and, nmL_vi, flV_len, flP_len, flV_nm, flV_ok, flV_pv, flP_map, drop_flP, drop_flV, putC_flV, eqV2, eqV3, bneT, bneF, decide_true, decide_false, frzL_vi, frzL_flV, nmE_ag, nmE_at, frzE_ag, frzE_at, ofAg_len, ofAt_len, atL_vi, nmL_map_p, frzL_map_p, okL_p, toPVs_p, repsZ, nmL_reps, putC_vi, get_flV0, get_flV1, Int.toNat_zero, Int.toNat_one, Int.reduceToNat, eqV_slice, eqV_ptr, eqV_func, nilS, nilP, nilF, nmL_append, true_or, or_true, and_self, true_and, and_true, Option.some.injEq, reduceCtorEq, false_or, or_false, VV.p.injEq, PV.at.injEq, Value.int.injEq, sl1, vi, bl1, vb, nilV, sl1])
      · rw [shl_w (by omega), hor1]
  · have h2 : p = -1 := by omega
    subst h2
    rw [ch_neg (by omega), Nat.or_zero] at hor
    subst hor
    (repeat (first | refine VC.seq ?_ | refine VC.block ?_ | refine VC.kill ?_ | refine VC.skip ?_ | refine VC.exit ?_ | refine VC.regA ?_ | refine VC.condT ?_ | refine VC.condF ?_))
    exact VC.ret (Fin.A rfl)
set_option maxHeartbeats 4000000 in
theorem RList_ok (S : Nat) (hS : S < 1024) : VCall cfg 42 [vi S] [] [] (sl1 (bitsL S)) [] := by
  (refine VCall.mk (fn := a42) rfl rfl rfl ?_; simp only [a42, inV, mkB, nmsL, PT.set])
  (repeat (first | refine VC.seq ?_ | refine VC.block ?_ | refine VC.kill ?_ | refine VC.skip ?_ | refine VC.exit ?_ | refine VC.regA ?_ | refine VC.condT ?_ | refine VC.condF ?_))
  refine VC.loopG (fun (i : Nat) => ⟨inV [p0, p3, p4] [vi S, .os 1 p19 (bitsTo S i).length, vi i] .lf, mkB [(p19, .cells (((bitsTo S i).map fun k : Nat => (k : Int)).map vi))] .lf, [], none⟩) (fun n i => n = 10 - i ∧ i ≤ 10) (x := 0) ?_ ⟨rfl, Nat.zero_le _⟩ ?_
  · refine G.adoptA (p := p3) 1 p19 ?_
    have : bitsTo S 0 = [] := rfl
    (apply Go.Ab.V.G.weak; constructor <;> simp (config := {decide := true}) only [PT.Le, inV, mkB, PT.set, VSt.kill, VSt.adopt, VSt.alloc, PT.filt, PT.map, List.map_cons, List.map_nil, noref, norefB, deadB, deadV, nos, nm, nmL, nmB, nmE, Pa.eqb, cond_true, cond_false, Bool.not_true, Bool.not_false, Bool.and_true, Bool.true_and, nmL_vi, flV_len, flP_len, flV_nm, flV_ok, flV_pv, flP_map, drop_flP, drop_flV, putC_flV, eqV2, eqV3, bneT, bneF, decide_true, decide_false, frzL_vi, frzL_flV, nmE_ag, nmE_at, frzE_ag, frzE_at, ofAg_len, ofAt_len, atL_vi, nmL_map_p, frzL_map_p, okL_p, toPVs_p, repsZ, nmL_reps, putC_vi, get_flV0, get_flV1, Int.toNat_zero, Int.toNat_one, Int.reduceToNat, eqV_slice, eqV_ptr, eqV_func, nilS, nilP, nilF, nmL_append, true_or, or_true, and_self, true_and, and_true, Option.some.injEq, reduceCtorEq, false_or, or_false, VV.p.injEq, PV.at.injEq, Value.int.injEq, sl1, vi, bl1, vb, nilV, this])
    (all_goals first | rfl | omega | exact ⟨rfl, by omega⟩)
  rintro n i ⟨hn, hi⟩
  simp only [inV, PT.set, mkB]
  have hfd := fdivI (a := S) (p := i) (by omega)
  have hbm := bit_mod S i
  have hbs := bitsTo_succ S i
  have hbl := bitsTo_len S i
  have h0 : S >>> i = 0 → bitsTo S i = bitsN S := fun e => by
    refine bitsTo_end ?_ hi
    rw [Nat.shiftRight_eq_div_pow] at e
    exact (Nat.div_eq_zero_iff_lt (Nat.pow_pos (by decide))).1 e
  have h10 : ¬S >>> i = 0 → i < 10 := fun e => by
    rcases Nat.lt_or_ge i 10 with h1 | h1
    · exact h1
    · have : i = 10 := by omega
      subst this
      rw [Nat.shiftRight_eq_div_pow, Nat.div_eq_of_lt hS] at e; exact absurd rfl e
  generalize S >>> i = w at *
  generalize hB : bitsTo S i = B at *
  (repeat (first | refine VC.seq ?_ | refine VC.block ?_ | refine VC.kill ?_ | refine VC.skip ?_ | refine VC.exit ?_ | refine VC.regA ?_ | refine VC.condT ?_ | refine VC.condF ?_))
  simp only [hfd]
  refine VC.condA ?_ ?_ <;> intro h' <;> (simp only [decide_eq_true_eq, decide_eq_false_iff_not, bne_iff_ne, ne_eq, bne_eq_false_iff_eq, beq_iff_eq, beq_eq_false_iff_ne, Bool.not_eq_true', Bool.not_eq_false', Bool.and_eq_true, Bool.or_eq_true, Int.natCast_inj] at h')
  · have h' : ¬w = 0 := by omega
    have h10 := h10 h'
    have htm : (w : Int).tmod 2 = ((w % 2 : Nat) : Int) := by rw [Int.tmod_eq_emod_of_nonneg (by omega)]; omega
    (repeat (first | refine VC.seq ?_ | refine VC.block ?_ | refine VC.kill ?_ | refine VC.skip ?_ | refine VC.exit ?_ | refine VC.regA ?_ | refine VC.condT ?_ | refine VC.condF ?_))
    simp only [hfd, htm]
    cases hb : S.testBit i with
    | true =>
      rw [hb] at hbs hbm
      simp only [if_true] at hbs hbm
      rw [hbm]
      (repeat (first | refine VC.seq ?_ | refine VC.block ?_ | refine VC.kill ?_ | refine VC.skip ?_ | refine VC.exit ?_ | refine VC.regA ?_ | refine VC.condT ?_ | refine VC.condF ?_))
      refine ⟨_, i + 1, ?_, ⟨rfl, by omega⟩, ?_⟩
      · omega
      · (apply Go.Ab.V.G.weak; constructor <;> simp (config := {decide := true}) only [PT.Le, inV, mkB, PT.set, VSt.kill, VSt.adopt, VSt.alloc, PT.filt, PT.map, List.map_cons, List.map_nil, noref, norefB, deadB, deadV, nos, nm, nmL, nmB, nmE, Pa.eqb, cond_true, cond_false, Bool.not_true, Bool.not_false, Bool.and_true, Bool.true_and, nmL_vi, flV_len, flP_len, flV_nm, flV_ok, flV_pv, flP_map, drop_flP, drop_flV, putC_flV, eqV2, eqV3, bneT, bneF, decide_true, decide_false, frzL_vi, frzL_flV, nmE_ag, nmE_at, frzE_ag, frzE_at, ofAg_len, ofAt_len, atL_vi, nmL_map_p, frzL_map_p, okL_p, toPVs_p, repsZ, nmL_reps, putC_vi, get_flV0, get_flV1, Int.toNat_zero, Int.toNat_one, Int.reduceToNat, eqV_slice, eqV_ptr, eqV_func, nilS, nilP, nilF, nmL_append, true_or, or_true, and_self, true_and, and_true, Option.some.injEq, reduceCtorEq, false_or, or_false, VV.p.injEq, PV.at.injEq, Value.int.injEq, sl1, vi, bl1, vb, nilV, hbs, List.map_append, List.length_append])
        (all_goals first | rfl | omega | exact ⟨rfl, by omega⟩)
    | false =>
      rw [hb] at hbs hbm
      simp only [Bool.false_eq_true, if_false] at hbs hbm
      rw [hbm]
      (repeat (first | refine VC.seq ?_ | refine VC.block ?_ | refine VC.kill ?_ | refine VC.skip ?_ | refine VC.exit ?_ | refine VC.regA ?_ | refine VC.condT ?_ | refine VC.condF ?_))
      refine ⟨_, i + 1, ?_, ⟨rfl, by omega⟩, ?_⟩
      · omega
      · (apply Go.Ab.V.G.weak; constructor <;> simp (config := {decide := true}) only [PT.Le, inV, mkB, PT.set, VSt.kill, VSt.adopt, VSt.alloc, PT.filt, PT.map, List.map_cons, List.map_nil, noref, norefB, deadB, deadV, nos, nm, nmL, nmB, nmE, Pa.eqb, cond_true, cond_false, Bool.not_true, Bool.not_false, Bool.and_true, Bool.true_and, nmL_vi, flV_len, flP_len, flV_nm, flV_ok, flV_pv, flP_map, drop_flP, drop_flV, putC_flV, eqV2, eqV3, bneT, bneF, decide_true, decide_false, frzL_vi, frzL_flV, nmE_ag, nmE_at, frzE_ag, frzE_at, ofAg_len, ofAt_len, atL_vi, nmL_map_p, frzL_map_p, okL_p, toPVs_p, repsZ, nmL_reps, putC_vi, get_flV0, get_flV1, Int.toNat_zero, Int.toNat_one, Int.reduceToNat, eqV_slice, eqV_ptr, eqV_func, nilS, nilP, nilF, nmL_append, true_or, or_true, and_self, true_and, and_true, Option.some.injEq, reduceCtorEq, false_or, or_false, VV.p.injEq, PV.at.injEq, Value.int.injEq, sl1, vi, bl1, vb, nilV, hbs])
        (all_goals first | rfl | omega | exact ⟨rfl, by omega⟩)
  · have h' : w = 0 := by omega
    have h0 := h0 h'
    subst h0
    (repeat (first | refine VC.seq ?_ | refine VC.block ?_ | refine VC.kill ?_ | refine VC.skip ?_ | refine VC.exit ?_ | refine VC.regA ?_ | refine VC.condT ?_ | refine VC.condF ?_))
    refine VC.ret (Fin.frzA p19 (hb := rfl) (hc := toPVs_vi _) (Fin.A ?_))
    simp [sl1, bitsL, resX]
end Go.Ab.Dues

namespace Go.Ab.Dues
open Go.Ab.V
set_option maxRecDepth 100000
theorem sumL_snoc (l : List Int) (x : Int) : sumL (l ++ [x]) = sumL l + x := by unfold sumL; rw [List.foldl_append]; rfl
def psum (c : Can) (P i : Nat) : Int := sumL ((bitsTo P i).map fun p => c.cost.getD p 0)
theorem psum_bd {c : Can} (h : okC c) (P i : Nat) (hi : i ≤ 10) : 0 ≤ psum c P i ∧ psum c P i ≤ 10000 := by
  have := sumL_pos ((bitsTo P i).map fun p => c.cost.getD p 0) 1000 (fun x hx => by
    obtain ⟨p, _, rfl⟩ := List.mem_map.1 hx
    exact cost_getD h p)
  rw [List.length_map] at this
  have hl := bitsTo_len P i
  have h2 : (bitsTo P i).length * 1000 ≤ 10 * 1000 := Nat.mul_le_mul_right _ (by omega)
  unfold psum
  omega
set_option maxHeartbeats 4000000 in
theorem RCost_ok (c : Can) (h : okC c) (P : Nat) (hP : P < 2 ^ c.cost.length) : VCall cfg 60 [canV c, vi P] [] [] (vi (costP c.cost P)) [] := by
  have h10 := h.n10
  have hcl := h.cl
  have hend : psum c P c.cost.length = costP c.cost P := by unfold psum costP; rw [bitsTo_end hP (by omega)]
  unfold canV
  (refine VCall.mk (fn := a60) rfl rfl rfl ?_; simp only [a60, inV, mkB, nmsL, PT.set])
  (repeat (first | refine VC.seq ?_ | refine VC.block ?_ | refine VC.kill ?_ | refine VC.skip ?_ | refine VC.exit ?_ | refine VC.regA ?_ | refine VC.condT ?_ | refine VC.condF ?_))
  refine VC.loopG (fun (i : Nat) => ⟨inV [p1, p2, p5, p6] [vi P, .op 0 p2 0, vi (psum c P i), vi i] .lf, mkB [(p2, .cells [sl1 c.up, sl1 c.cost, sl1 c.ships])] .lf, [], none⟩) (fun n i => n = c.cost.length - i ∧ i ≤ c.cost.length) (x := 0) ?_ ⟨rfl, Nat.zero_le _⟩ ?_
  · have : psum c P 0 = 0 := rfl
    (apply Go.Ab.V.G.weak; constructor <;> simp (config := {decide := true}) only [PT.Le, inV, mkB, PT.set, VSt.kill, VSt.adopt, VSt.alloc, PT.filt, PT.map, List.map_cons, List.map_nil, noref, norefB, deadB, deadV, nos, nm, nmL, nmB, nmE, Pa.eqb, cond_true, cond_false, Bool.not_true, Bool.not_false, Bool.and_true, Bool.true_and, nmL_vi, flV_len, flP_len, flV_nm, flV_ok, flV_pv, flP_map, drop_flP, drop_flV, putC_flV, eqV2, eqV3, bneT, bneF, decide_true, decide_false, frzL_vi, frzL_flV, nmE_ag, nmE_at, frzE_ag, frzE_at, ofAg_len, ofAt_len, atL_vi, nmL_map_p, frzL_map_p, okL_p, toPVs_p, repsZ, nmL_reps, putC_vi, get_flV0, get_flV1, Int.toNat_zero, Int.toNat_one, Int.reduceToNat, eqV_slice, eqV_ptr, eqV_func, nilS, nilP, nilF, nmL_append, true_or, or_true, and_self, true_and, and_true, Option.some.injEq, reduceCtorEq, false_or, or_false, VV.p.injEq, PV.at.injEq, Value.int.injEq, sl1, vi, bl1, vb, nilV, sl1, this])
    (all_goals first | rfl | omega | exact ⟨rfl, by omega⟩)
  rintro n i ⟨hn, hi⟩
  simp only [inV, PT.set, mkB]
  have hb := psum_bd h P i (by omega)
  have hfin : i = c.cost.length → psum c P i = costP c.cost P := fun e => by rw [e, hend]
  have hps : psum c P (i + 1) = psum c P i + (if P.testBit i = true then c.cost.getD i 0 else 0) := by
    unfold psum
    rw [bitsTo_succ]
    split
    · rw [List.map_append, List.map_cons, List.map_nil, sumL_snoc]
    · omega
  generalize psum c P i = u at *
  (repeat (first | refine VC.seq ?_ | refine VC.block ?_ | refine VC.kill ?_ | refine VC.skip ?_ | refine VC.exit ?_ | refine VC.regA ?_ | refine VC.condT ?_ | refine VC.condF ?_))
  refine VC.condA ?_ ?_ <;> intro h' <;> (simp only [decide_eq_true_eq, decide_eq_false_iff_not, bne_iff_ne, ne_eq, bne_eq_false_iff_eq, beq_iff_eq, beq_eq_false_iff_ne, Bool.not_eq_true', Bool.not_eq_false', Bool.and_eq_true, Bool.or_eq_true, Int.natCast_inj] at h')
  · have h' : i < c.cost.length := by omega
    have hci := h.cost i h'
    have hgd : c.cost.getD i 0 = c.cost[i] := by rw [List.getD_eq_getElem?_getD, List.getElem?_eq_getElem h']; rfl
    rw [hgd] at hps
    have hsr := shr_i64 (a := P) (n := i) (by omega)
    have hbm := bit_mod P i
    generalize hw : P >>> i = w at *
    have htm : (w : Int).tmod 2 = ((w % 2 : Nat) : Int) := by rw [Int.tmod_eq_emod_of_nonneg (by omega)]; omega
    generalize hcc : c.cost[i] = ci at *
    cases hbt : P.testBit i with
    | true =>
      rw [hbt] at hps hbm
      simp only [if_true] at hps hbm
      rw [hbm] at htm
      have hw1 : IntKind.i64.wrap (u + IntKind.i64.wrap ((w : Int) % 2 * ci)) = u + ci := by
        rw [show (w : Int) % 2 = 1 from by omega, Int.one_mul, wrapI (x := ci) (by omega) (by omega), wrapI (by omega) (by omega)]
      (repeat (first | refine VC.seq ?_ | refine VC.block ?_ | refine VC.kill ?_ | refine VC.skip ?_ | refine VC.exit ?_ | refine VC.regA ?_ | refine VC.condT ?_ | refine VC.condF ?_))
      ((try (apply VC.regU; · ((simp (config := {decide := false, maxSteps := 1000000}) (disch := omega) only [vev_call, putC_c0, putC_n0, putC_cs, ble0, List.getElem?_cons_zero, List.getElem?_cons_succ, runU, isCall, wantV, vev, evV, ofVal, ofAtom, atomB, cond_true, cond_false, PT.get, PT.set, PT.filt, PT.map, Option.getD_some, Option.getD_none, ret1V, ret1X, v_ld, v_ias, v_iad, v_fad, v_slsl, v_slarr, v_st, v_app, v_cpy, v_clr, v_len, v_look, v_mset, elsV, partV, newV, free, atV, atI, atL, toVal, cellsV, okV, VSt.put, VSt.kill, VSt.alloc, VSt.frz, VSt.adopt, noref, norefB, deadB, deadV, nos, nm, nmL, nmB, nmE, Pa.eqb, Bool.not_false, Bool.not_true, Bool.and_true, Bool.true_and, Bool.false_and, Bool.and_false, bin, intOps, intBin, cvt, un, goInt, bndsV, bndV, Option.map_some, Option.map_none, List.map_cons, List.map_nil, Int.toNat_natCast, Nat.mul_one, Nat.zero_add, beq_true, beq_false, beq_self_eq_true, List.length_map, List.length_cons, List.length_nil, List.length_append, fillV, pEvV, repsV, List.append_nil, List.nil_append, if_pos, if_neg, reduceIte, List.getElem?_map, List.getElem?_drop, Nat.add_zero, List.getElem?_eq_getElem, Go.IntWalk.i64_in, wrap_u64, tmod_pos, eq_self, true_and, and_true, and_self, List.all_cons, List.all_nil, nmL_vi, flV_len, flP_len, flV_nm, flV_ok, flV_pv, flP_map, drop_flP, drop_flV, putC_flV, eqV2, eqV3, bneT, bneF, decide_true, decide_false, frzL_vi, frzL_flV, nmE_ag, nmE_at, frzE_ag, frzE_at, ofAg_len, ofAt_len, atL_vi, nmL_map_p, frzL_map_p, okL_p, toPVs_p, repsZ, nmL_reps, putC_vi, get_flV0, get_flV1, Int.toNat_zero, Int.toNat_one, Int.reduceToNat, eqV_slice, eqV_ptr, eqV_func, nilS, nilP, nilF, nmL_append, okL_vi, toPVs_vi, toPVs, toPV, frzV, frzL, frzB, resVV, vi, vb, nilV, sl1, bl1, pi, foldV, max2, min2, max_eq, min_eq, Int.tdiv_eq_ediv_of_nonneg, Int.cast_ofNat_Int, Option.isSome_none, Option.isSome_some, Option.isNone_none, Option.isNone_some, and_false, false_and, sl2, sl1P, slP, min_cast, take_map_pi, map_pi, Nat.sub_zero, Nat.zero_mul, List.length_take, decide_eq_true, decide_eq_false, Bool.true_eq_false, Bool.false_eq_true, beqT, beqF, ibeq, ibne, List.take_zero, List.take_succ_cons, List.drop_zero, List.drop_succ_cons, List.drop_nil, List.take_nil, List.cons_append, Bool.not_true, Bool.not_false, hsr, htm, hcc, hw1]); rfl))); (repeat (first | refine VC.seq ?_ | refine VC.block ?_ | refine VC.kill ?_ | refine VC.skip ?_ | refine VC.exit ?_ | refine VC.regA ?_ | refine VC.condT ?_ | refine VC.condF ?_)))
      refine ⟨_, i + 1, ?_, ⟨rfl, by omega⟩, ?_⟩
      · omega
      · (apply Go.Ab.V.G.weak; constructor <;> simp (config := {decide := true}) only [PT.Le, inV, mkB, PT.set, VSt.kill, VSt.adopt, VSt.alloc, PT.filt, PT.map, List.map_cons, List.map_nil, noref, norefB, deadB, deadV, nos, nm, nmL, nmB, nmE, Pa.eqb, cond_true, cond_false, Bool.not_true, Bool.not_false, Bool.and_true, Bool.true_and, nmL_vi, flV_len, flP_len, flV_nm, flV_ok, flV_pv, flP_map, drop_flP, drop_flV, putC_flV, eqV2, eqV3, bneT, bneF, decide_true, decide_false, frzL_vi, frzL_flV, nmE_ag, nmE_at, frzE_ag, frzE_at, ofAg_len, ofAt_len, atL_vi, nmL_map_p, frzL_map_p, okL_p, toPVs_p, repsZ, nmL_reps, putC_vi, get_flV0, get_flV1, Int.toNat_zero, Int.toNat_one, Int.reduceToNat, eqV_slice, eqV_ptr, eqV_func, nilS, nilP, nilF, nmL_append, true_or, or_true, and_self, true_and, and_true, Option.some.injEq, reduceCtorEq, false_or, or_false, VV.p.injEq, PV.at.injEq, Value.int.injEq, sl1, vi, bl1, vb, nilV, sl1, hps])
        (all_goals first | rfl | omega | exact ⟨rfl, by omega⟩)
    | false =>
      rw [hbt] at hps hbm
      simp only [Bool.false_eq_true, if_false] at hps hbm
      rw [hbm] at htm
      have hw1 : IntKind.i64.wrap (u + IntKind.i64.wrap ((w : Int) % 2 * ci)) = u + 0 := by
        rw [show (w : Int) % 2 = 0 from by omega, Int.zero_mul, wrapI (x := 0) (by omega) (by omega), wrapI (by omega) (by omega)]
      (repeat (first | refine VC.seq ?_ | refine VC.block ?_ | refine VC.kill ?_ | refine VC.skip ?_ | refine VC.exit ?_ | refine VC.regA ?_ | refine VC.condT ?_ | refine VC.condF ?_))
      ((try (apply VC.regU; · ((simp (config := {decide := false, maxSteps := 1000000}) (disch := omega) only [vev_call, putC_c0, putC_n0, putC_cs, ble0, List.getElem?_cons_zero, List.getElem?_cons_succ, runU, isCall, wantV, vev, evV, ofVal, ofAtom, atomB, cond_true, cond_false, PT.get, PT.set, PT.filt, PT.map, Option.getD_some, Option.getD_none, ret1V, ret1X, v_ld, v_ias, v_iad, v_fad, v_slsl, v_slarr, v_st, v_app, v_cpy, v_clr, v_len, v_look, v_mset, elsV, partV, newV, free, atV, atI, atL, toVal, cellsV, okV, VSt.put, VSt.kill, VSt.alloc, VSt.frz, VSt.adopt, noref, norefB, deadB, deadV, nos, nm, nmL, nmB, nmE, Pa.eqb, Bool.not_false, Bool.not_true, Bool.and_true, Bool.true_and, Bool.false_and, Bool.and_false, bin, intOps, intBin, cvt, un, goInt, bndsV, bndV, Option.map_some, Option.map_none, List.map_cons, List.map_nil, Int.toNat_natCast, Nat.mul_one, Nat.zero_add, beq_true, beq_false, beq_self_eq_true, List.length_map, List.length_cons, List.length_nil, List.length_append, fillV, pEvV, repsV, List.append_nil, List.nil_append, if_pos, if_neg, reduceIte, List.getElem?_map, List.getElem?_drop, Nat.add_zero, List.getElem?_eq_getElem, Go.IntWalk.i64_in, wrap_u64, tmod_pos, eq_self, true_and, and_true, and_self, List.all_cons, List.all_nil, nmL_vi, flV_len, flP_len, flV_nm, flV_ok, flV_pv, flP_map, drop_flP, drop_flV, putC_flV, eqV2, eqV3, bneT, bneF, decide_true, decide_false, frzL_vi, frzL_flV, nmE_ag, nmE_at, frzE_ag, frzE_at, ofAg_len, ofAt_len, atL_vi, nmL_map_p, frzL_map_p, okL_p, toPVs_p, repsZ, nmL_reps, putC_vi, get_flV0, get_flV1, Int.toNat_zero, Int.toNat_one, Int.reduceToNat, eqV_slice, eqV_ptr, eqV_func, nilS, nilP, nilF, nmL_append, okL_vi, toPVs_vi, toPVs, toPV, frzV, frzL, frzB, resVV, vi, vb, nilV, sl1, bl1, pi, foldV, max2, min2, max_eq, min_eq, Int.tdiv_eq_ediv_of_nonneg, Int.cast_ofNat_Int, Option.isSome_none, Option.isSome_some, Option.isNone_none, Option.isNone_some, and_false, false_and, sl2, sl1P, slP, min_cast, take_map_pi, map_pi, Nat.sub_zero, Nat.zero_mul, List.length_take, decide_eq_true, decide_eq_false, Bool.true_eq_false, Bool.false_eq_true, beqT, beqF, ibeq, ibne, List.take_zero, List.take_succ_cons, List.drop_zero, List.drop_succ_cons, List.drop_nil, List.take_nil, List.cons_append, Bool.not_true, Bool.not_false, hsr, htm, hcc, hw1]); rfl))); (repeat (first | refine VC.seq ?_ | refine VC.block ?_ | refine VC.kill ?_ | refine VC.skip ?_ | refine VC.exit ?_ | refine VC.regA ?_ | refine VC.condT ?_ | refine VC.condF ?_)))
      refine ⟨_, i + 1, ?_, ⟨rfl, by omega⟩, ?_⟩
      · omega
      · (apply Go.Ab.V.G.weak; constructor <;> simp (config := {decide := true}) only [PT.Le, inV, mkB, PT.set, VSt.kill, VSt.adopt, VSt.alloc, PT.filt, PT.map, List.map_cons, List.map_nil, noref, norefB, deadB, deadV, nos, nm, nmL, nmB, nmE, Pa.eqb, cond_true, cond_false, Bool.not_true, Bool.not_false, Bool.and_true, Bool.true_and, nmL_vi, flV_len, flP_len, flV_nm, flV_ok, flV_pv, flP_map, drop_flP, drop_flV, putC_flV, eqV2, eqV3, bneT, bneF, decide_true, decide_false, frzL_vi, frzL_flV, nmE_ag, nmE_at, frzE_ag, frzE_at, ofAg_len, ofAt_len, atL_vi, nmL_map_p, frzL_map_p, okL_p, toPVs_p, repsZ, nmL_reps, putC_vi, get_flV0, get_flV1, Int.toNat_zero, Int.toNat_one, Int.reduceToNat, eqV_slice, eqV_ptr, eqV_func, nilS, nilP, nilF, nmL_append, true_or, or_true, and_self, true_and, and_true, Option.some.injEq, reduceCtorEq, false_or, or_false, VV.p.injEq, PV.at.injEq, Value.int.injEq, sl1, vi, bl1, vb, nilV, sl1, hps])
        (all_goals first | rfl | omega | exact ⟨rfl, by omega⟩)
  · have hf := hfin (by omega)
    subst hf
    (repeat (first | refine VC.seq ?_ | refine VC.block ?_ | refine VC.kill ?_ | refine VC.skip ?_ | refine VC.exit ?_ | refine VC.regA ?_ | refine VC.condT ?_ | refine VC.condF ?_))
    exact VC.ret (Fin.A rfl)
def orTo (nd : List Nat) (S i : Nat) : Nat := (bitsTo S i).foldl (fun a s => a ||| nd.getD s 0) 0
theorem orTo_succ (nd : List Nat) (S i : Nat) : orTo nd S (i + 1) = if S.testBit i = true then orTo nd S i ||| nd.getD i 0 else orTo nd S i := by
  unfold orTo
  rw [bitsTo_succ]
  split
  · rw [List.foldl_append]; rfl
  · rfl
theorem pieces_lt2 {c : Can} (h : okC c) (k S : Nat) : pieces (needK c k) S < 2 ^ c.cost.length := by
  apply Nat.lt_pow_two_of_testBit
  intro i hi
  cases hb : (pieces (needK c k) S).testBit i with
  | false => rfl
  | true =>
    obtain ⟨s, _, hs⟩ := pieces_bit.1 hb
    have := needK_bit h hs
    have := h.cl
    omega
set_option maxHeartbeats 4000000 in
theorem RCostOf_ok (c : Can) (h : okC c) (S : Nat) (hS : S < 2 ^ c.ships.length) : VCall cfg 30 [canV c, vi S] [] [] (vi (costS c S)) [] := by
  have h7 := h.s7
  have kc := RCost_ok c h (pieces (needK c c.ships.length) S) (pieces_lt2 h _ S)
  have kn := RNeeds_ok c h
  have hend : orTo (needK c c.ships.length) S c.ships.length = pieces (needK c c.ships.length) S := by unfold orTo pieces; rw [bitsTo_end hS (by omega)]
  have hlt := needK_lt h c.ships.length
  have hS7 : S < 1024 := Nat.lt_of_lt_of_le hS (show 2 ^ c.ships.length ≤ 2 ^ 10 from Nat.pow_le_pow_right (by decide) (by omega))
  have hgd : ∀ s, s < c.ships.length → (needK c c.ships.length).getD s 0 = ch c (c.ships.getD s (-1)) := fun s hs => by
    rw [List.getD_eq_getElem?_getD, List.getElem?_eq_getElem (by rw [needK_len]; omega), Option.getD_some, needK_get, if_pos hs]
  unfold costS
  have hol : ∀ i, orTo (needK c c.ships.length) S i < 1024 := fun i => fold_or_lt _ hlt _ _ (by decide)
  have hos := fun i => orTo_succ (needK c c.ships.length) S i
  generalize needK c c.ships.length = nd at *
  unfold canV at kc kn ⊢
  (refine VCall.mk (fn := a30) rfl rfl rfl ?_; simp only [a30, inV, mkB, nmsL, PT.set])
  (repeat (first | refine VC.seq ?_ | refine VC.block ?_ | refine VC.kill ?_ | refine VC.skip ?_ | refine VC.exit ?_ | refine VC.regA ?_ | refine VC.condT ?_ | refine VC.condF ?_))
  refine VC.loopG (fun (i : Nat) => ⟨inV [p1, p2, p5, p6] [vi S, .op 0 p2 0, vi (orTo nd S i : Nat), vi i] .lf, mkB [(p2, .cells [sl1 c.up, sl1 c.cost, sl1 c.ships])] .lf, [], none⟩) (fun n i => n = c.ships.length - i ∧ i ≤ c.ships.length) (x := 0) ?_ ⟨rfl, Nat.zero_le _⟩ ?_
  · have : orTo nd S 0 = 0 := rfl
    (apply Go.Ab.V.G.weak; constructor <;> simp (config := {decide := true}) only [PT.Le, inV, mkB, PT.set, VSt.kill, VSt.adopt, VSt.alloc, PT.filt, PT.map, List.map_cons, List.map_nil, noref, norefB, deadB, deadV, nos, nm, nmL, nmB, nmE, Pa.eqb, cond_true, cond_false, Bool.not_true, Bool.not_false, Bool.and_true, Bool.true_and, nmL_vi, flV_len, flP_len, flV_nm, flV_ok, flV_pv, flP_map, drop_flP, drop_flV, putC_flV, eqV2, eqV3, bneT, bneF, decide_true, decide_false, frzL_vi, frzL_flV, nmE_ag, nmE_at, frzE_ag, frzE_at, ofAg_len, ofAt_len, atL_vi, nmL_map_p, frzL_map_p, okL_p, toPVs_p, repsZ, nmL_reps, putC_vi, get_flV0, get_flV1, Int.toNat_zero, Int.toNat_one, Int.reduceToNat, eqV_slice, eqV_ptr, eqV_func, nilS, nilP, nilF, nmL_append, true_or, or_true, and_self, true_and, and_true, Option.some.injEq, reduceCtorEq, false_or, or_false, VV.p.injEq, PV.at.injEq, Value.int.injEq, sl1, vi, bl1, vb, nilV, sl1, this])
    (all_goals first | rfl | omega | exact ⟨rfl, by omega⟩)
  rintro n i ⟨hn, hi⟩
  simp only [inV, PT.set, mkB]
  have ho := hos i
  have hl := hol i
  have hfin : i = c.ships.length → orTo nd S i = pieces nd S := fun e => by rw [e, hend]
  generalize orTo nd S i = u at *
  (repeat (first | refine VC.seq ?_ | refine VC.block ?_ | refine VC.kill ?_ | refine VC.skip ?_ | refine VC.exit ?_ | refine VC.regA ?_ | refine VC.condT ?_ | refine VC.condF ?_))
  refine VC.condA ?_ ?_ <;> intro h' <;> (simp only [decide_eq_true_eq, decide_eq_false_iff_not, bne_iff_ne, ne_eq, bne_eq_false_iff_eq, beq_iff_eq, beq_eq_false_iff_ne, Bool.not_eq_true', Bool.not_eq_false', Bool.and_eq_true, Bool.or_eq_true, Int.natCast_inj] at h')
  · have h' : i < c.ships.length := by omega
    have hfd := fdivI (a := S) (p := i) (by omega)
    have hbm := bit_mod S i
    generalize hw : S >>> i = w at *
    have htm : (w : Int).tmod 2 = ((w % 2 : Nat) : Int) := by rw [Int.tmod_eq_emod_of_nonneg (by omega)]; omega
    have k2 := kn i h'
    rw [← hgd i h'] at k2
    have hl2 := hlt i
    generalize nd.getD i 0 = x at *
    have hor1 := or_i64 (a := u) (b := x) (by omega) (by omega)
    cases hbt : S.testBit i with
    | true =>
      rw [hbt] at ho hbm
      simp only [if_true] at ho hbm
      rw [hbm] at htm
      (repeat (first | refine VC.seq ?_ | refine VC.block ?_ | refine VC.kill ?_ | refine VC.skip ?_ | refine VC.exit ?_ | refine VC.regA ?_ | refine VC.condT ?_ | refine VC.condF ?_))
      simp only [hfd, htm]
      (repeat (first | refine VC.seq ?_ | refine VC.block ?_ | refine VC.kill ?_ | refine VC.skip ?_ | refine VC.exit ?_ | refine VC.regA ?_ | refine VC.condT ?_ | refine VC.condF ?_))
      (refine VC.regCA ?_; refine VO.moreA ?_; refine VO.call0A (no_orc _ (by decide)) k2 ?_; refine VO.endA ?_; (repeat (first | refine VC.seq ?_ | refine VC.block ?_ | refine VC.kill ?_ | refine VC.skip ?_ | refine VC.exit ?_ | refine VC.regA ?_ | refine VC.condT ?_ | refine VC.condF ?_)))
      simp only [hor1]
      refine ⟨_, i + 1, ?_, ⟨rfl, by omega⟩, ?_⟩
      · omega
      · (apply Go.Ab.V.G.weak; constructor <;> simp (config := {decide := true}) only [PT.Le, inV, mkB, PT.set, VSt.kill, VSt.adopt, VSt.alloc, PT.filt, PT.map, List.map_cons, List.map_nil, noref, norefB, deadB, deadV, nos, nm, nmL, nmB, nmE, Pa.eqb, cond_true, cond_false, Bool.not_true, Bool.not_false, Bool.and_true, Bool.true_and, nmL_vi, flV_len, flP_len, flV_nm, flV_ok, flV_pv, flP_map, drop_flP, drop_flV, putC_flV, eqV2, eqV3, bneT, bneF, decide_true, decide_false, frzL_vi, frzL_flV, nmE_ag, nmE_at, frzE_ag, frzE_at, ofAg_len, ofAt_len, atL_vi, nmL_map_p, frzL_map_p, okL_p, toPVs_p, repsZ, nmL_reps, putC_vi, get_flV0, get_flV1, Int.toNat_zero, Int.toNat_one, Int.reduceToNat, eqV_slice, eqV_ptr, eqV_func, nilS, nilP, nilF, nmL_append, true_or, or_true, and_self, true_and, and_true, Option.some.injEq, reduceCtorEq, false_or, or_false, VV.p.injEq, PV.at.injEq, Value.int.injEq, sl1, vi, bl1, vb, nilV, sl1, ho])
        (all_goals first | rfl | omega | exact ⟨rfl, by omega⟩)
    | false =>
      rw [hbt] at ho hbm
      simp only [Bool.false_eq_true, if_false] at ho hbm
      rw [hbm] at htm
      (repeat (first | refine VC.seq ?_ | refine VC.block ?_ | refine VC.kill ?_ | refine VC.skip ?_ | refine VC.exit ?_ | refine VC.regA ?_ | refine VC.condT ?_ | refine VC.condF ?_))
      simp only [hfd, htm]
      (repeat (first | refine VC.seq ?_ | refine VC.block ?_ | refine VC.kill ?_ | refine VC.skip ?_ | refine VC.exit ?_ | refine VC.regA ?_ | refine VC.condT ?_ | refine VC.condF ?_))
      refine ⟨_, i + 1, ?_, ⟨rfl, by omega⟩, ?_⟩
      · omega
      · (apply Go.Ab.V.G.weak; constructor <;> simp (config := {decide := true}) only [PT.Le, inV, mkB, PT.set, VSt.kill, VSt.adopt, VSt.alloc, PT.filt, PT.map, List.map_cons, List.map_nil, noref, norefB, deadB, deadV, nos, nm, nmL, nmB, nmE, Pa.eqb, cond_true, cond_false, Bool.not_true, Bool.not_false, Bool.and_true, Bool.true_and, nmL_vi, flV_len, flP_len, flV_nm, flV_ok, flV_pv, flP_map, drop_flP, drop_flV, putC_flV, eqV2, eqV3, bneT, bneF, decide_true, decide_false, frzL_vi, frzL_flV, nmE_ag, nmE_at, frzE_ag, frzE_at, ofAg_len, ofAt_len, atL_vi, nmL_map_p, frzL_map_p, okL_p, toPVs_p, repsZ, nmL_reps, putC_vi, get_flV0, get_flV1, Int.toNat_zero, Int.toNat_one, Int.reduceToNat, eqV_slice, eqV_ptr, eqV_func, nilS, nilP, nilF, nmL_append, true_or, or_true, and_self, true_and, and_true, Option.some.injEq, reduceCtorEq, false_or, or_false, VV.p.injEq, PV.at.injEq, Value.int.injEq, sl1, vi, bl1, vb, nilV, sl1, ho])
        (all_goals first | rfl | omega | exact ⟨rfl, by omega⟩)
  · have hf := hfin (by omega)
    subst hf
    (repeat (first | refine VC.seq ?_ | refine VC.block ?_ | refine VC.kill ?_ | refine VC.skip ?_ | refine VC.exit ?_ | refine VC.regA ?_ | refine VC.condT ?_ | refine VC.condF ?_))
    (refine VC.regCA ?_; refine VO.moreA ?_; refine VO.call0A (no_orc _ (by decide)) kc ?_; refine VO.endA ?_; (repeat (first | refine VC.seq ?_ | refine VC.block ?_ | refine VC.kill ?_ | refine VC.skip ?_ | refine VC.exit ?_ | refine VC.regA ?_ | refine VC.condT ?_ | refine VC.condF ?_)))
    exact VC.ret (Fin.A rfl)
end Go.Ab.Dues

namespace Go.Ab.Dues
/-! ### Set functions: plain sums over ranges -/
end Go.Ab.Dues

namespace Go.Ab.Dues
open Go.Ab.V
set_option maxRecDepth 100000
end Go.Ab.Dues

namespace Go.Ab.Dues
open Go.Ab.V
set_option maxRecDepth 100000
def uPart (nd : List Nat) (n k : Nat) (T : List Nat) : List Int := (List.range n).map fun (p : Nat) => ((usersK nd p k + (if p ∈ T then 1 else 0) : Nat) : Int)
theorem uPart_len (nd : List Nat) (n k : Nat) (T : List Nat) : (uPart nd n k T).length = n := by simp [uPart]
theorem uPart_get (nd : List Nat) (n k : Nat) (T : List Nat) (p : Nat) (h : p < (uPart nd n k T).length) : (uPart nd n k T)[p] = ((usersK nd p k + (if p ∈ T then 1 else 0) : Nat) : Int) := by simp [uPart]
theorem uPart_set (nd : List Nat) (n k : Nat) (T : List Nat) (p : Nat) (hp : p ∉ T) (h : p < (uPart nd n k T).length) : (uPart nd n k T).set p ((uPart nd n k T)[p] + 1) = uPart nd n k (T ++ [p]) := by
  refine List.ext_getElem (by rw [List.length_set, uPart_len, uPart_len]) fun i h1 h2 => ?_
  simp only [List.getElem_set, uPart_get]
  by_cases e : p = i
  · subst e
    rw [if_pos rfl, if_neg hp, if_pos (by simp)]; omega
  · rw [if_neg e]
    have : i ∈ T ++ [p] ↔ i ∈ T := by simp [Ne.symm e]
    simp only [this]
theorem uPart_end (nd : List Nat) (n k : Nat) (hn : n ≤ 10) : uPart nd n k (bitsN (nd.getD k 0)) = uPart nd n (k + 1) [] := by
  refine List.ext_getElem (by rw [uPart_len, uPart_len]) fun i h1 h2 => ?_
  rw [uPart_get, uPart_get, usersK_succ]
  rw [uPart_len] at h1
  have : i ∈ bitsN (nd.getD k 0) ↔ (nd.getD k 0).testBit i = true := by rw [bitsN_mem]; exact ⟨fun h => h.2, fun h => ⟨by omega, h⟩⟩
  simp only [this]
  simp
theorem bitsN_nodup (S : Nat) : (bitsN S).Nodup := List.Pairwise.filter _ List.nodup_range
set_option maxHeartbeats 8000000 in
theorem RPieces_ok (c : Can) (h : okC c) : VCall cfg 40 [canV c] [] [] (sl1 (piecesL c c.up.length)) [] := by
  have h7 := h.s7
  have h10 := h.n10
  have kn := RNeeds_ok c h
  have hlt := needK_lt h c.ships.length
  have hgd : ∀ s, s < c.ships.length → (needK c c.ships.length).getD s 0 = ch c (c.ships.getD s (-1)) := fun s hs => by
    rw [List.getD_eq_getElem?_getD, List.getElem?_eq_getElem (by rw [needK_len]; omega), Option.getD_some, needK_get, if_pos hs]
  have hbit : ∀ s i, ((needK c c.ships.length).getD s 0).testBit i = true → i < c.up.length := fun s i hb => needK_bit h hb
  have hpl : piecesL c c.up.length = uPart (needK c c.ships.length) c.up.length c.ships.length [] := by simp [piecesL, uPart]
  rw [hpl]
  generalize needK c c.ships.length = nd at *
  have hz0 : uPart nd c.up.length 0 [] = List.replicate c.up.length 0 := by
    refine List.ext_getElem (by simp [uPart]) fun i h1 h2 => ?_
    simp [uPart, usersK]
  have hul := uPart_len nd c.up.length
  unfold canV at kn ⊢
  (refine VCall.mk (fn := a40) rfl rfl rfl ?_; simp only [a40, inV, mkB, nmsL, PT.set])
  (repeat (first | refine VC.seq ?_ | refine VC.block ?_ | refine VC.kill ?_ | refine VC.skip ?_ | refine VC.exit ?_ | refine VC.regA ?_ | refine VC.condT ?_ | refine VC.condF ?_))
  refine VC.loopG (fun (k : Nat) => ⟨inV [p1, p3, p4] [.op 0 p1 0, .os 1 p10 c.up.length, vi k] .lf, mkB [(p1, .cells [sl1 c.up, sl1 c.cost, sl1 c.ships]), (p10, .cells ((uPart nd c.up.length k []).map vi))] .lf, [], none⟩) (fun n k => n = c.ships.length - k ∧ k ≤ c.ships.length) (x := 0) ?_ ⟨rfl, Nat.zero_le _⟩ ?_
  · rw [hz0]
    (apply Go.Ab.V.G.weak; constructor <;> simp (config := {decide := true}) only [PT.Le, inV, mkB, PT.set, VSt.kill, VSt.adopt, VSt.alloc, PT.filt, PT.map, List.map_cons, List.map_nil, noref, norefB, deadB, deadV, nos, nm, nmL, nmB, nmE, Pa.eqb, cond_true, cond_false, Bool.not_true, Bool.not_false, Bool.and_true, Bool.true_and, nmL_vi, flV_len, flP_len, flV_nm, flV_ok, flV_pv, flP_map, drop_flP, drop_flV, putC_flV, eqV2, eqV3, bneT, bneF, decide_true, decide_false, frzL_vi, frzL_flV, nmE_ag, nmE_at, frzE_ag, frzE_at, ofAg_len, ofAt_len, atL_vi, nmL_map_p, frzL_map_p, okL_p, toPVs_p, repsZ, nmL_reps, putC_vi, get_flV0, get_flV1, Int.toNat_zero, Int.toNat_one, Int.reduceToNat, eqV_slice, eqV_ptr, eqV_func, nilS, nilP, nilF, nmL_append, true_or, or_true, and_self, true_and, and_true, Option.some.injEq, reduceCtorEq, false_or, or_false, VV.p.injEq, PV.at.injEq, Value.int.injEq, sl1, vi, bl1, vb, nilV, sl1, repsV_one, List.map_replicate])
  rintro n k ⟨hn, hk⟩
  simp only [inV, PT.set, mkB]
  have hue := uPart_end nd c.up.length k h10
  (repeat (first | refine VC.seq ?_ | refine VC.block ?_ | refine VC.kill ?_ | refine VC.skip ?_ | refine VC.exit ?_ | refine VC.regA ?_ | refine VC.condT ?_ | refine VC.condF ?_))
  refine VC.condA ?_ ?_ <;> intro h' <;> (simp only [decide_eq_true_eq, decide_eq_false_iff_not, bne_iff_ne, ne_eq, bne_eq_false_iff_eq, beq_iff_eq, beq_eq_false_iff_ne, Bool.not_eq_true', Bool.not_eq_false', Bool.and_eq_true, Bool.or_eq_true, Int.natCast_inj] at h')
  · have h' : k < c.ships.length := by omega
    have k2 := kn k h'
    rw [← hgd k h'] at k2
    have hl := hlt k
    have hbk := hbit k
    have hus := fun T p hp h => uPart_set nd c.up.length k T p hp h
    generalize nd.getD k 0 = w at *
    have k3 := RList_ok w hl
    have hbl : (bitsL w).length = (bitsN w).length := by simp [bitsL]
    have hb10 := bitsN_len w
    have hbg := bitsL_get w
    have hnd := bitsN_nodup w
    have hpl : ∀ j (h : j < (bitsN w).length), (bitsN w)[j] < c.up.length := fun j hj => hbk _ (bitsN_mem.1 (List.getElem_mem hj)).2
    have htk : ∀ j (h : j < (bitsN w).length), (bitsN w).take (j + 1) = (bitsN w).take j ++ [(bitsN w)[j]] := fun j hj => by rw [List.take_add_one, List.getElem?_eq_getElem hj]; rfl
    have hni : ∀ j (h : j < (bitsN w).length), (bitsN w)[j] ∉ (bitsN w).take j := fun j hj hm => by
      obtain ⟨i, hi, e⟩ := List.mem_iff_getElem.1 hm
      rw [List.getElem_take] at e
      have := (List.getElem_inj hnd).1 e
      rw [List.length_take] at hi; omega
    (repeat (first | refine VC.seq ?_ | refine VC.block ?_ | refine VC.kill ?_ | refine VC.skip ?_ | refine VC.exit ?_ | refine VC.regA ?_ | refine VC.condT ?_ | refine VC.condF ?_))
    (refine VC.regCA ?_; refine VO.moreA ?_; refine VO.call0A (no_orc _ (by decide)) k2 ?_)
    (refine VO.moreA ?_; refine VO.call0A (no_orc _ (by decide)) k3 ?_)
    (refine VO.endA ?_; (repeat (first | refine VC.seq ?_ | refine VC.block ?_ | refine VC.kill ?_ | refine VC.skip ?_ | refine VC.exit ?_ | refine VC.regA ?_ | refine VC.condT ?_ | refine VC.condF ?_)))
    refine VC.loopG (fun (j : Nat) => ⟨inV [p1, p3, p4, p5, p6] [.op 0 p1 0, .os 1 p10 c.up.length, vi k, sl1 (bitsL w), vi j] .lf, mkB [(p1, .cells [sl1 c.up, sl1 c.cost, sl1 c.ships]), (p10, .cells ((uPart nd c.up.length k ((bitsN w).take j)).map vi))] .lf, [], none⟩) (fun n j => n = (bitsN w).length - j ∧ j ≤ (bitsN w).length) (x := 0) ?_ ⟨rfl, Nat.zero_le _⟩ ?_
    · have : (bitsN w).take 0 = [] := rfl
      (apply Go.Ab.V.G.weak; constructor <;> simp (config := {decide := true}) only [PT.Le, inV, mkB, PT.set, VSt.kill, VSt.adopt, VSt.alloc, PT.filt, PT.map, List.map_cons, List.map_nil, noref, norefB, deadB, deadV, nos, nm, nmL, nmB, nmE, Pa.eqb, cond_true, cond_false, Bool.not_true, Bool.not_false, Bool.and_true, Bool.true_and, nmL_vi, flV_len, flP_len, flV_nm, flV_ok, flV_pv, flP_map, drop_flP, drop_flV, putC_flV, eqV2, eqV3, bneT, bneF, decide_true, decide_false, frzL_vi, frzL_flV, nmE_ag, nmE_at, frzE_ag, frzE_at, ofAg_len, ofAt_len, atL_vi, nmL_map_p, frzL_map_p, okL_p, toPVs_p, repsZ, nmL_reps, putC_vi, get_flV0, get_flV1, Int.toNat_zero, Int.toNat_one, Int.reduceToNat, eqV_slice, eqV_ptr, eqV_func, nilS, nilP, nilF, nmL_append, true_or, or_true, and_self, true_and, and_true, Option.some.injEq, reduceCtorEq, false_or, or_false, VV.p.injEq, PV.at.injEq, Value.int.injEq, sl1, vi, bl1, vb, nilV, sl1, this])
      (all_goals first | rfl | omega | exact ⟨rfl, by omega⟩)
    rintro n' j ⟨hn', hj⟩
    simp only [inV, PT.set, mkB]
    (repeat (first | refine VC.seq ?_ | refine VC.block ?_ | refine VC.kill ?_ | refine VC.skip ?_ | refine VC.exit ?_ | refine VC.regA ?_ | refine VC.condT ?_ | refine VC.condF ?_))
    refine VC.condA ?_ ?_ <;> intro h2 <;> (simp only [decide_eq_true_eq, decide_eq_false_iff_not, bne_iff_ne, ne_eq, bne_eq_false_iff_eq, beq_iff_eq, beq_eq_false_iff_ne, Bool.not_eq_true', Bool.not_eq_false', Bool.and_eq_true, Bool.or_eq_true, Int.natCast_inj] at h2)
    · have h2 : j < (bitsN w).length := by omega
      have h3 : j < (bitsL w).length := by omega
      have hbj := hbg j h3
      have hpj := hpl j h2
      have htj := htk j h2
      have hnj := hni j h2
      generalize (bitsN w)[j] = p at *
      have hlu := hul k ((bitsN w).take j)
      have hset := hus ((bitsN w).take j) p hnj
      rw [← htj] at hset
      have hule := usersK_le nd p k
      have hub : ∀ h : p < (uPart nd c.up.length k ((bitsN w).take j)).length, 0 ≤ (uPart nd c.up.length k ((bitsN w).take j))[p] ∧ (uPart nd c.up.length k ((bitsN w).take j))[p] ≤ 10 := fun h => by
        rw [uPart_get]; split <;> omega
      generalize uPart nd c.up.length k ((bitsN w).take j) = U at *
      have hpU : p < U.length := by omega
      have hub := hub hpU
      have hset := hset hpU
      have hpc := putC_one (U.map vi) p (vi (U[p] + 1)) (by rw [List.length_map]; omega)
      rw [set_vi, hset] at hpc
      simp only [vi] at hpc
      (repeat (first | refine VC.seq ?_ | refine VC.block ?_ | refine VC.kill ?_ | refine VC.skip ?_ | refine VC.exit ?_ | refine VC.regA ?_ | refine VC.condT ?_ | refine VC.condF ?_))
      have hwr := wrapI (x := U[p] + 1) (by omega) (by omega)
      simp only [hbj, Int.toNat_natCast, hwr, hset]
      refine ⟨_, j + 1, ?_, ⟨rfl, by omega⟩, ?_⟩
      · omega
      · (apply Go.Ab.V.G.weak; constructor <;> simp (config := {decide := true}) only [PT.Le, inV, mkB, PT.set, VSt.kill, VSt.adopt, VSt.alloc, PT.filt, PT.map, List.map_cons, List.map_nil, noref, norefB, deadB, deadV, nos, nm, nmL, nmB, nmE, Pa.eqb, cond_true, cond_false, Bool.not_true, Bool.not_false, Bool.and_true, Bool.true_and, nmL_vi, flV_len, flP_len, flV_nm, flV_ok, flV_pv, flP_map, drop_flP, drop_flV, putC_flV, eqV2, eqV3, bneT, bneF, decide_true, decide_false, frzL_vi, frzL_flV, nmE_ag, nmE_at, frzE_ag, frzE_at, ofAg_len, ofAt_len, atL_vi, nmL_map_p, frzL_map_p, okL_p, toPVs_p, repsZ, nmL_reps, putC_vi, get_flV0, get_flV1, Int.toNat_zero, Int.toNat_one, Int.reduceToNat, eqV_slice, eqV_ptr, eqV_func, nilS, nilP, nilF, nmL_append, true_or, or_true, and_self, true_and, and_true, Option.some.injEq, reduceCtorEq, false_or, or_false, VV.p.injEq, PV.at.injEq, Value.int.injEq, sl1, vi, bl1, vb, nilV, sl1])
        (all_goals first | rfl | omega | exact ⟨rfl, by omega⟩)
    · have h2 : j = (bitsN w).length := by omega
      subst h2
      rw [List.take_length, hue]
      (repeat (first | refine VC.seq ?_ | refine VC.block ?_ | refine VC.kill ?_ | refine VC.skip ?_ | refine VC.exit ?_ | refine VC.regA ?_ | refine VC.condT ?_ | refine VC.condF ?_))
      refine ⟨_, k + 1, ?_, ⟨rfl, by omega⟩, ?_⟩
      · omega
      · (apply Go.Ab.V.G.weak; constructor <;> simp (config := {decide := true}) only [PT.Le, inV, mkB, PT.set, VSt.kill, VSt.adopt, VSt.alloc, PT.filt, PT.map, List.map_cons, List.map_nil, noref, norefB, deadB, deadV, nos, nm, nmL, nmB, nmE, Pa.eqb, cond_true, cond_false, Bool.not_true, Bool.not_false, Bool.and_true, Bool.true_and, nmL_vi, flV_len, flP_len, flV_nm, flV_ok, flV_pv, flP_map, drop_flP, drop_flV, putC_flV, eqV2, eqV3, bneT, bneF, decide_true, decide_false, frzL_vi, frzL_flV, nmE_ag, nmE_at, frzE_ag, frzE_at, ofAg_len, ofAt_len, atL_vi, nmL_map_p, frzL_map_p, okL_p, toPVs_p, repsZ, nmL_reps, putC_vi, get_flV0, get_flV1, Int.toNat_zero, Int.toNat_one, Int.reduceToNat, eqV_slice, eqV_ptr, eqV_func, nilS, nilP, nilF, nmL_append, true_or, or_true, and_self, true_and, and_true, Option.some.injEq, reduceCtorEq, false_or, or_false, VV.p.injEq, PV.at.injEq, Value.int.injEq, sl1, vi, bl1, vb, nilV, sl1])
        (all_goals first | rfl | omega | exact ⟨rfl, by omega⟩)
  · have h' : k = c.ships.length := by omega
    subst h'
    have hlu := hul c.ships.length []
    (repeat (first | refine VC.seq ?_ | refine VC.block ?_ | refine VC.kill ?_ | refine VC.skip ?_ | refine VC.exit ?_ | refine VC.regA ?_ | refine VC.condT ?_ | refine VC.condF ?_))
    refine VC.ret (Fin.frzA p10 (hb := rfl) (hc := toPVs_vi _) (Fin.A ?_))
    simp only [sl1, hlu]; rfl
end Go.Ab.Dues

namespace Go.Ab.Dues
open Go.Ab.V
set_option maxRecDepth 100000
def tn (c : Can) : Nat := max 1 (min c.up.length 10)
def upT (c : Can) (i : Nat) : List Int := (List.range i).map fun (k : Nat) => if k = 0 then -1 else c.up.getD k 0 % 18446744073709551616 % k
def costT (c : Can) (i : Nat) : List Int := (List.range i).map fun k => if k < c.cost.length then c.cost.getD k 0 % 18446744073709551616 % 1001 else 1
def shipT (c : Can) (i : Nat) : List Int := (c.ships.take i).map fun x => x % 18446744073709551616 % (tn c : Nat)
def tameC (c : Can) (m : Nat) : Can := ⟨upT c (tn c), costT c (tn c), shipT c m⟩
theorem upT_len (c : Can) (i : Nat) : (upT c i).length = i := by simp [upT]
theorem costT_len (c : Can) (i : Nat) : (costT c i).length = i := by simp [costT]
theorem upT_succ (c : Can) (i : Nat) : upT c (i + 1) = upT c i ++ [if i = 0 then -1 else c.up.getD i 0 % 18446744073709551616 % i] := by simp [upT, List.range_succ]
theorem costT_succ (c : Can) (i : Nat) : costT c (i + 1) = costT c i ++ [if i < c.cost.length then c.cost.getD i 0 % 18446744073709551616 % 1001 else 1] := by simp [costT, List.range_succ]
theorem shipT_succ (c : Can) (i : Nat) (h : i < c.ships.length) : shipT c (i + 1) = shipT c i ++ [c.ships[i] % 18446744073709551616 % (tn c : Nat)] := by
  unfold shipT; rw [List.take_add_one, List.getElem?_eq_getElem h, List.map_append]; rfl
theorem shipT_len (c : Can) (i : Nat) : (shipT c i).length = min i c.ships.length := by simp [shipT]
theorem tame_okC (c : Can) (m : Nat) (hm : m ≤ 7) : okC (tameC c m) := by
  have hn : 1 ≤ tn c ∧ tn c ≤ 10 := by unfold tn; omega
  refine ⟨?_, ?_, ?_, ?_, ?_, ?_, ?_, ?_⟩
  · simp only [tameC, upT_len]; omega
  · simp only [tameC, upT_len]; omega
  · simp only [tameC, upT_len, costT_len]
  · simp only [tameC, shipT_len]; omega
  · intro h; simp [tameC, upT]
  · intro i h hi
    simp only [tameC, upT, List.getElem_map, List.getElem_range, if_neg (show ¬i = 0 by omega)]
    exact ⟨Int.emod_nonneg _ (by omega), Int.emod_lt_of_pos _ (by omega)⟩
  · intro i h
    simp only [tameC, costT, List.getElem_map, List.getElem_range]
    split <;> omega
  · intro x hx
    simp only [tameC, shipT, List.mem_map] at hx
    obtain ⟨y, _, rfl⟩ := hx
    simp only [tameC, upT_len]
    exact ⟨Int.emod_nonneg _ (by omega), Int.emod_lt_of_pos _ (by omega)⟩
set_option maxHeartbeats 8000000 in
theorem tame_ok (c : Can) (m : Nat) (hm : m ≤ 7) (h1 : c.up.length ≤ 9223372036854775807) (h2 : c.cost.length ≤ 9223372036854775807) (h3 : c.ships.length ≤ 9223372036854775807) : VCall cfg 15 [canV c, vi m] [] [] (canV (tameC c m)) [] := by
  have hn : 1 ≤ tn c ∧ tn c ≤ 10 := by unfold tn; omega
  have hnc : max 1 (min (c.up.length : Int) 10) = (tn c : Int) := by unfold tn; omega
  have hnup : ∀ i, i < tn c → 0 < i → i < c.up.length := fun i h0 h1 => by unfold tn at h0; omega
  have hul := upT_len c
  have hcl := costT_len c
  have hus := upT_succ c
  have hcs := costT_succ c
  unfold canV tameC
  generalize hNN : tn c = N at *
  (refine VCall.mk (fn := a15) rfl rfl rfl ?_; simp only [a15, inV, mkB, nmsL, PT.set])
  (repeat (first | refine VC.seq ?_ | refine VC.block ?_ | refine VC.kill ?_ | refine VC.skip ?_ | refine VC.exit ?_ | refine VC.regA ?_ | refine VC.condT ?_ | refine VC.condF ?_))
  simp only [hnc]
  refine VC.ghost (G.adoptBA (p := p5) 0 1 p56 G.refl) ?_
  (simp only [List.nil_append, List.append_nil, VSt.kill, VSt.osob, VSt.adoptB, VSt.adopt, VSt.alloc, PT.filt, norefB, deadB, deadV, PT.map, Option.map_some, Option.map_none, List.map_cons, List.map_nil, noref, nos, nm, nmL, nmB, nmE, Pa.eqb, PT.set, mkB, inV, cond_true, cond_false, Bool.and_true, Bool.not_false, Bool.not_true, List.set_cons_zero, List.set_cons_succ])
  refine VC.ghost (G.adoptBA (p := p5) 1 1 p61 G.refl) ?_
  (simp only [List.nil_append, List.append_nil, VSt.kill, VSt.osob, VSt.adoptB, VSt.adopt, VSt.alloc, PT.filt, norefB, deadB, deadV, PT.map, Option.map_some, Option.map_none, List.map_cons, List.map_nil, noref, nos, nm, nmL, nmB, nmE, Pa.eqb, PT.set, mkB, inV, cond_true, cond_false, Bool.and_true, Bool.not_false, Bool.not_true, List.set_cons_zero, List.set_cons_succ])
  refine VC.ghost (G.adoptBA (p := p5) 2 1 p89 G.refl) ?_
  (simp only [List.nil_append, List.append_nil, VSt.kill, VSt.osob, VSt.adoptB, VSt.adopt, VSt.alloc, PT.filt, norefB, deadB, deadV, PT.map, Option.map_some, Option.map_none, List.map_cons, List.map_nil, noref, nos, nm, nmL, nmB, nmE, Pa.eqb, PT.set, mkB, inV, cond_true, cond_false, Bool.and_true, Bool.not_false, Bool.not_true, List.set_cons_zero, List.set_cons_succ])
  refine VC.loopG (fun (i : Nat) => ⟨inV [p1, p2, p4, p5, p6, p7] [vi m, .op 0 p2 0, .op 0 p4 0, .op 0 p5 0, vi N, vi i] .lf, mkB [(p2, .cells [sl1 c.up, sl1 c.cost, sl1 c.ships]), (p4, .cells [nilV, nilV, nilV]), (p5, .cells [.os 1 p56 i, .os 1 p61 i, .os 1 p89 0]), (p56, .cells ((upT c i).map vi)), (p61, .cells ((costT c i).map vi)), (p89, .cells [])] .lf, [], none⟩) (fun n i => n = N - i ∧ i ≤ N) (x := 0) ?_ ⟨rfl, Nat.zero_le _⟩ ?_
  · have e1 : upT c 0 = [] := rfl
    have e2 : costT c 0 = [] := rfl
    (apply Go.Ab.V.G.weak; constructor <;> simp (config := {decide := true}) only [PT.Le, inV, mkB, PT.set, VSt.kill, VSt.adopt, VSt.alloc, PT.filt, PT.map, List.map_cons, List.map_nil, noref, norefB, deadB, deadV, nos, nm, nmL, nmB, nmE, Pa.eqb, cond_true, cond_false, Bool.not_true, Bool.not_false, Bool.and_true, Bool.true_and, nmL_vi, flV_len, flP_len, flV_nm, flV_ok, flV_pv, flP_map, drop_flP, drop_flV, putC_flV, eqV2, eqV3, bneT, bneF, decide_true, decide_false, frzL_vi, frzL_flV, nmE_ag, nmE_at, frzE_ag, frzE_at, ofAg_len, ofAt_len, atL_vi, nmL_map_p, frzL_map_p, okL_p, toPVs_p, repsZ, nmL_reps, putC_vi, get_flV0, get_flV1, Int.toNat_zero, Int.toNat_one, Int.reduceToNat, eqV_slice, eqV_ptr, eqV_func, nilS, nilP, nilF, nmL_append, true_or, or_true, and_self, true_and, and_true, Option.some.injEq, reduceCtorEq, false_or, or_false, VV.p.injEq, PV.at.injEq, Value.int.injEq, sl1, vi, bl1, vb, nilV, sl1, e1, e2])
    (all_goals first | rfl | omega | exact ⟨rfl, by omega⟩)
  rintro n i ⟨hn', hi⟩
  simp only [inV, PT.set, mkB]
  have hui := hus i
  have hci := hcs i
  have hul1 := hul i
  have hcl1 := hcl i
  have hfin : i = N → upT c i = upT c N ∧ costT c i = costT c N := fun e => by rw [e]; exact ⟨rfl, rfl⟩
  generalize hU : upT c i = U at *
  generalize hC : costT c i = T at *
  (repeat (first | refine VC.seq ?_ | refine VC.block ?_ | refine VC.kill ?_ | refine VC.skip ?_ | refine VC.exit ?_ | refine VC.regA ?_ | refine VC.condT ?_ | refine VC.condF ?_))
  refine VC.condA ?_ ?_ <;> intro h' <;> (simp only [decide_eq_true_eq, decide_eq_false_iff_not, bne_iff_ne, ne_eq, bne_eq_false_iff_eq, beq_iff_eq, beq_eq_false_iff_ne, Bool.not_eq_true', Bool.not_eq_false', Bool.and_eq_true, Bool.or_eq_true, Int.natCast_inj] at h')
  · have h' : i < N := by omega
    have key : ∀ (u k : Int), u = (if i = 0 then -1 else c.up.getD i 0 % 18446744073709551616 % i) → k = (if i < c.cost.length then c.cost.getD i 0 % 18446744073709551616 % 1001 else 1) → upT c (i + 1) = U ++ [u] ∧ costT c (i + 1) = T ++ [k] := fun u k e1 e2 => by rw [hui, hci, e1, e2]; exact ⟨rfl, rfl⟩
    by_cases hi0 : i = 0
    · subst hi0
      by_cases hcc : 0 < c.cost.length
      · have hgd : c.cost.getD 0 0 = c.cost[0] := by rw [List.getD_eq_getElem?_getD, List.getElem?_eq_getElem hcc]; rfl
        obtain ⟨k1, k2⟩ := key (-1) (c.cost[0] % 18446744073709551616 % 1001) (by simp) (by rw [if_pos hcc, hgd])
        (repeat (first | refine VC.seq ?_ | refine VC.block ?_ | refine VC.kill ?_ | refine VC.skip ?_ | refine VC.exit ?_ | refine VC.regA ?_ | refine VC.condT ?_ | refine VC.condF ?_))
        refine ⟨_, 1, ?_, ⟨rfl, by omega⟩, ?_⟩
        · omega
        · (apply Go.Ab.V.G.weak; constructor <;> simp (config := {decide := true}) only [PT.Le, inV, mkB, PT.set, VSt.kill, VSt.adopt, VSt.alloc, PT.filt, PT.map, List.map_cons, List.map_nil, noref, norefB, deadB, deadV, nos, nm, nmL, nmB, nmE, Pa.eqb, cond_true, cond_false, Bool.not_true, Bool.not_false, Bool.and_true, Bool.true_and, nmL_vi, flV_len, flP_len, flV_nm, flV_ok, flV_pv, flP_map, drop_flP, drop_flV, putC_flV, eqV2, eqV3, bneT, bneF, decide_true, decide_false, frzL_vi, frzL_flV, nmE_ag, nmE_at, frzE_ag, frzE_at, ofAg_len, ofAt_len, atL_vi, nmL_map_p, frzL_map_p, okL_p, toPVs_p, repsZ, nmL_reps, putC_vi, get_flV0, get_flV1, Int.toNat_zero, Int.toNat_one, Int.reduceToNat, eqV_slice, eqV_ptr, eqV_func, nilS, nilP, nilF, nmL_append, true_or, or_true, and_self, true_and, and_true, Option.some.injEq, reduceCtorEq, false_or, or_false, VV.p.injEq, PV.at.injEq, Value.int.injEq, sl1, vi, bl1, vb, nilV, sl1, k1, k2, List.map_append])
          (all_goals first | rfl | omega | exact ⟨rfl, by omega⟩)
      · obtain ⟨k1, k2⟩ := key (-1) 1 (by simp) (by rw [if_neg hcc])
        (repeat (first | refine VC.seq ?_ | refine VC.block ?_ | refine VC.kill ?_ | refine VC.skip ?_ | refine VC.exit ?_ | refine VC.regA ?_ | refine VC.condT ?_ | refine VC.condF ?_))
        refine ⟨_, 1, ?_, ⟨rfl, by omega⟩, ?_⟩
        · omega
        · (apply Go.Ab.V.G.weak; constructor <;> simp (config := {decide := true}) only [PT.Le, inV, mkB, PT.set, VSt.kill, VSt.adopt, VSt.alloc, PT.filt, PT.map, List.map_cons, List.map_nil, noref, norefB, deadB, deadV, nos, nm, nmL, nmB, nmE, Pa.eqb, cond_true, cond_false, Bool.not_true, Bool.not_false, Bool.and_true, Bool.true_and, nmL_vi, flV_len, flP_len, flV_nm, flV_ok, flV_pv, flP_map, drop_flP, drop_flV, putC_flV, eqV2, eqV3, bneT, bneF, decide_true, decide_false, frzL_vi, frzL_flV, nmE_ag, nmE_at, frzE_ag, frzE_at, ofAg_len, ofAt_len, atL_vi, nmL_map_p, frzL_map_p, okL_p, toPVs_p, repsZ, nmL_reps, putC_vi, get_flV0, get_flV1, Int.toNat_zero, Int.toNat_one, Int.reduceToNat, eqV_slice, eqV_ptr, eqV_func, nilS, nilP, nilF, nmL_append, true_or, or_true, and_self, true_and, and_true, Option.some.injEq, reduceCtorEq, false_or, or_false, VV.p.injEq, PV.at.injEq, Value.int.injEq, sl1, vi, bl1, vb, nilV, sl1, k1, k2, List.map_append])
          (all_goals first | rfl | omega | exact ⟨rfl, by omega⟩)
    · have hup := hnup i h' (by omega)
      have hgu : c.up.getD i 0 = c.up[i] := by rw [List.getD_eq_getElem?_getD, List.getElem?_eq_getElem hup]; rfl
      have hb0 : 0 ≤ c.up[i] % 18446744073709551616 % (i : Int) := Int.emod_nonneg _ (by omega)
      have hb1 : c.up[i] % 18446744073709551616 % (i : Int) < i := Int.emod_lt_of_pos _ (by omega)
      have hi64 : (i : Int) % 18446744073709551616 = i := by omega
      have hb2 : 0 ≤ c.up[i] % 18446744073709551616 % ((i : Int) % 18446744073709551616) ∧ c.up[i] % 18446744073709551616 % ((i : Int) % 18446744073709551616) < i := by rw [hi64]; exact ⟨hb0, hb1⟩
      by_cases hcc : i < c.cost.length
      · have hgd : c.cost.getD i 0 = c.cost[i] := by rw [List.getD_eq_getElem?_getD, List.getElem?_eq_getElem hcc]; rfl
        obtain ⟨k1, k2⟩ := key (c.up[i] % 18446744073709551616 % i) (c.cost[i] % 18446744073709551616 % 1001) (by rw [if_neg hi0, hgu]) (by rw [if_pos hcc, hgd])
        (repeat (first | refine VC.seq ?_ | refine VC.block ?_ | refine VC.kill ?_ | refine VC.skip ?_ | refine VC.exit ?_ | refine VC.regA ?_ | refine VC.condT ?_ | refine VC.condF ?_))
        simp only [hi64]
        refine ⟨_, i + 1, ?_, ⟨rfl, by omega⟩, ?_⟩
        · omega
        · (apply Go.Ab.V.G.weak; constructor <;> simp (config := {decide := true}) only [PT.Le, inV, mkB, PT.set, VSt.kill, VSt.adopt, VSt.alloc, PT.filt, PT.map, List.map_cons, List.map_nil, noref, norefB, deadB, deadV, nos, nm, nmL, nmB, nmE, Pa.eqb, cond_true, cond_false, Bool.not_true, Bool.not_false, Bool.and_true, Bool.true_and, nmL_vi, flV_len, flP_len, flV_nm, flV_ok, flV_pv, flP_map, drop_flP, drop_flV, putC_flV, eqV2, eqV3, bneT, bneF, decide_true, decide_false, frzL_vi, frzL_flV, nmE_ag, nmE_at, frzE_ag, frzE_at, ofAg_len, ofAt_len, atL_vi, nmL_map_p, frzL_map_p, okL_p, toPVs_p, repsZ, nmL_reps, putC_vi, get_flV0, get_flV1, Int.toNat_zero, Int.toNat_one, Int.reduceToNat, eqV_slice, eqV_ptr, eqV_func, nilS, nilP, nilF, nmL_append, true_or, or_true, and_self, true_and, and_true, Option.some.injEq, reduceCtorEq, false_or, or_false, VV.p.injEq, PV.at.injEq, Value.int.injEq, sl1, vi, bl1, vb, nilV, sl1, k1, k2, List.map_append])
          (all_goals first | rfl | omega | exact ⟨rfl, by omega⟩)
      · obtain ⟨k1, k2⟩ := key (c.up[i] % 18446744073709551616 % i) 1 (by rw [if_neg hi0, hgu]) (by rw [if_neg hcc])
        (repeat (first | refine VC.seq ?_ | refine VC.block ?_ | refine VC.kill ?_ | refine VC.skip ?_ | refine VC.exit ?_ | refine VC.regA ?_ | refine VC.condT ?_ | refine VC.condF ?_))
        simp only [hi64]
        refine ⟨_, i + 1, ?_, ⟨rfl, by omega⟩, ?_⟩
        · omega
        · (apply Go.Ab.V.G.weak; constructor <;> simp (config := {decide := true}) only [PT.Le, inV, mkB, PT.set, VSt.kill, VSt.adopt, VSt.alloc, PT.filt, PT.map, List.map_cons, List.map_nil, noref, norefB, deadB, deadV, nos, nm, nmL, nmB, nmE, Pa.eqb, cond_true, cond_false, Bool.not_true, Bool.not_false, Bool.and_true, Bool.true_and, nmL_vi, flV_len, flP_len, flV_nm, flV_ok, flV_pv, flP_map, drop_flP, drop_flV, putC_flV, eqV2, eqV3, bneT, bneF, decide_true, decide_false, frzL_vi, frzL_flV, nmE_ag, nmE_at, frzE_ag, frzE_at, ofAg_len, ofAt_len, atL_vi, nmL_map_p, frzL_map_p, okL_p, toPVs_p, repsZ, nmL_reps, putC_vi, get_flV0, get_flV1, Int.toNat_zero, Int.toNat_one, Int.reduceToNat, eqV_slice, eqV_ptr, eqV_func, nilS, nilP, nilF, nmL_append, true_or, or_true, and_self, true_and, and_true, Option.some.injEq, reduceCtorEq, false_or, or_false, VV.p.injEq, PV.at.injEq, Value.int.injEq, sl1, vi, bl1, vb, nilV, sl1, k1, k2, List.map_append])
          (all_goals first | rfl | omega | exact ⟨rfl, by omega⟩)
  · obtain ⟨f1, f2⟩ := hfin (by omega)
    have hiN : i = N := by omega
    subst hiN
    rw [← f1, ← f2]
    have hsl := fun k => shipT_len c k
    clear hui hci hus hcs hfin f1 f2
    (repeat (first | refine VC.seq ?_ | refine VC.block ?_ | refine VC.kill ?_ | refine VC.skip ?_ | refine VC.exit ?_ | refine VC.regA ?_ | refine VC.condT ?_ | refine VC.condF ?_))
    refine VC.loopG (fun (k : Nat) => ⟨inV [p1, p2, p4, p5, p6, p12] [vi m, .op 0 p2 0, .op 0 p4 0, .op 0 p5 0, vi i, vi k] .lf, mkB [(p2, .cells [sl1 c.up, sl1 c.cost, sl1 c.ships]), (p4, .cells [nilV, nilV, nilV]), (p5, .cells [.os 1 p56 i, .os 1 p61 i, .os 1 p89 k]), (p56, .cells (U.map vi)), (p61, .cells (T.map vi)), (p89, .cells ((shipT c k).map vi))] .lf, [], none⟩) (fun n k => n = c.ships.length - k ∧ k ≤ c.ships.length ∧ k ≤ m) (x := 0) ?_ ⟨rfl, Nat.zero_le _, Nat.zero_le _⟩ ?_
    · have e1 : shipT c 0 = [] := rfl
      (apply Go.Ab.V.G.weak; constructor <;> simp (config := {decide := true}) only [PT.Le, inV, mkB, PT.set, VSt.kill, VSt.adopt, VSt.alloc, PT.filt, PT.map, List.map_cons, List.map_nil, noref, norefB, deadB, deadV, nos, nm, nmL, nmB, nmE, Pa.eqb, cond_true, cond_false, Bool.not_true, Bool.not_false, Bool.and_true, Bool.true_and, nmL_vi, flV_len, flP_len, flV_nm, flV_ok, flV_pv, flP_map, drop_flP, drop_flV, putC_flV, eqV2, eqV3, bneT, bneF, decide_true, decide_false, frzL_vi, frzL_flV, nmE_ag, nmE_at, frzE_ag, frzE_at, ofAg_len, ofAt_len, atL_vi, nmL_map_p, frzL_map_p, okL_p, toPVs_p, repsZ, nmL_reps, putC_vi, get_flV0, get_flV1, Int.toNat_zero, Int.toNat_one, Int.reduceToNat, eqV_slice, eqV_ptr, eqV_func, nilS, nilP, nilF, nmL_append, true_or, or_true, and_self, true_and, and_true, Option.some.injEq, reduceCtorEq, false_or, or_false, VV.p.injEq, PV.at.injEq, Value.int.injEq, sl1, vi, bl1, vb, nilV, sl1, e1])
      (all_goals first | rfl | omega | exact ⟨rfl, by omega⟩)
    rintro n2 k ⟨hn2, hk, hkm⟩
    simp only [inV, PT.set, mkB]
    have hlk := hsl k
    rw [Nat.min_eq_left hk] at hlk
    have hss := shipT_succ c k
    have hfin2 : (k = m ∨ k = c.ships.length) → shipT c m = shipT c k := fun e => by
      unfold shipT
      rcases e with rfl | rfl
      · rfl
      · rw [List.take_of_length_le (by omega), List.take_of_length_le (by omega)]
    rw [hNN] at hss
    have hi64 : (i : Int) % 18446744073709551616 = i := by omega
    generalize hP : shipT c k = P at *
    by_cases hk1 : k < c.ships.length
    · by_cases hk2 : k < m
      · have hss := hss hk1
        have hb0 : 0 ≤ c.ships[k] % 18446744073709551616 % (i : Int) := Int.emod_nonneg _ (by omega)
        have hb1 : c.ships[k] % 18446744073709551616 % (i : Int) < i := Int.emod_lt_of_pos _ (by omega)
        have hb2 : 0 ≤ c.ships[k] % 18446744073709551616 % ((i : Int) % 18446744073709551616) ∧ c.ships[k] % 18446744073709551616 % ((i : Int) % 18446744073709551616) < i := by rw [hi64]; exact ⟨hb0, hb1⟩
        clear hfin2
        (repeat (first | refine VC.seq ?_ | refine VC.block ?_ | refine VC.kill ?_ | refine VC.skip ?_ | refine VC.exit ?_ | refine VC.regA ?_ | refine VC.condT ?_ | refine VC.condF ?_))
        simp only [hi64]
        refine ⟨_, k + 1, ?_, ⟨rfl, by omega, by omega⟩, ?_⟩
        · omega
        · (apply Go.Ab.V.G.weak; constructor <;> simp (config := {decide := true}) only [PT.Le, inV, mkB, PT.set, VSt.kill, VSt.adopt, VSt.alloc, PT.filt, PT.map, List.map_cons, List.map_nil, noref, norefB, deadB, deadV, nos, nm, nmL, nmB, nmE, Pa.eqb, cond_true, cond_false, Bool.not_true, Bool.not_false, Bool.and_true, Bool.true_and, nmL_vi, flV_len, flP_len, flV_nm, flV_ok, flV_pv, flP_map, drop_flP, drop_flV, putC_flV, eqV2, eqV3, bneT, bneF, decide_true, decide_false, frzL_vi, frzL_flV, nmE_ag, nmE_at, frzE_ag, frzE_at, ofAg_len, ofAt_len, atL_vi, nmL_map_p, frzL_map_p, okL_p, toPVs_p, repsZ, nmL_reps, putC_vi, get_flV0, get_flV1, Int.toNat_zero, Int.toNat_one, Int.reduceToNat, eqV_slice, eqV_ptr, eqV_func, nilS, nilP, nilF, nmL_append, true_or, or_true, and_self, true_and, and_true, Option.some.injEq, reduceCtorEq, false_or, or_false, VV.p.injEq, PV.at.injEq, Value.int.injEq, sl1, vi, bl1, vb, nilV, sl1, hss, List.map_append])
          (all_goals first | rfl | omega | exact ⟨rfl, by omega⟩)
      · have hf := hfin2 (.inl (by omega))
        rw [hf]
        clear hfin2 hss
        (repeat (first | refine VC.seq ?_ | refine VC.block ?_ | refine VC.kill ?_ | refine VC.skip ?_ | refine VC.exit ?_ | refine VC.regA ?_ | refine VC.condT ?_ | refine VC.condF ?_))
        refine VC.ret (Fin.frzA (cs := P.map pi) p89 (hb := rfl) (hc := toPVs_vi _) (Fin.frzA (cs := T.map pi) p61 (hb := rfl) (hc := by rw [frzL_vi]; exact toPVs_vi T) (Fin.frzA (cs := U.map pi) p56 (hb := rfl) (hc := by rw [frzL_vi, frzL_vi]; exact toPVs_vi U) (Fin.A ?_))))
        simp only [sl1, hul1, hcl1, hlk]; rfl
    · have hf := hfin2 (.inr (by omega))
      rw [hf]
      clear hfin2 hss
      (repeat (first | refine VC.seq ?_ | refine VC.block ?_ | refine VC.kill ?_ | refine VC.skip ?_ | refine VC.exit ?_ | refine VC.regA ?_ | refine VC.condT ?_ | refine VC.condF ?_))
      refine VC.ret (Fin.frzA (cs := P.map pi) p89 (hb := rfl) (hc := toPVs_vi _) (Fin.frzA (cs := T.map pi) p61 (hb := rfl) (hc := by rw [frzL_vi]; exact toPVs_vi T) (Fin.frzA (cs := U.map pi) p56 (hb := rfl) (hc := by rw [frzL_vi, frzL_vi]; exact toPVs_vi U) (Fin.A ?_))))
      simp only [sl1, hul1, hcl1, hlk]; rfl
end Go.Ab.Dues

namespace Go.Ab.Dues
open Go.Ab.V
set_option maxRecDepth 100000
end Go.Ab.Dues

namespace Go.Ab.Dues
open Go.Ab.V
set_option maxRecDepth 100000
end Go.Ab.Dues

namespace Go.Ab.Dues
open Go.Ab.V
set_option maxRecDepth 100000
/-! ### Orders -/
/-! ### Shares by an order -/
end Go.Ab.Dues

namespace Go.Ab.Dues
open Go.Ab.V
set_option maxRecDepth 100000
end Go.Ab.Dues

namespace Go.Ab.Dues
open Go.Ab.V
set_option maxRecDepth 100000
theorem q420 {u : Nat} : IntKind.i64.wrap ((420 : Int) / (u : Int)) = ((420 / u : Nat) : Int) := quoI (a := 420) (g := u) (by decide)
theorem piecesL_get (c : Can) (k p : Nat) (h : p < (piecesL c k).length) : (piecesL c k)[p] = ((usersK (needK c c.ships.length) p c.ships.length : Nat) : Int) := by simp [piecesL]
theorem Fin_ghost {S S' : VSt} {rs : List ARes} {K N : List Pa} {y : VV} {B' : List (Pa × VB)} (g : G S S') (f : Fin S' rs K N y B') : Fin S rs K N y B' := by
  obtain ⟨⟨S2, g2, h⟩, hn⟩ := f
  exact ⟨⟨S2, g.trans g2, h⟩, hn⟩
set_option maxHeartbeats 8000000 in
theorem REqual_core (c : Can) (h : okC c) (N : List Pa) (y : VV) (B' : List (Pa × VB)) (hf : Fin ⟨inV [p2] [.os 2 p51 c.ships.length] .lf, mkB [(p51, .cells (flV (frI (equalN c c.ships.length))))] .lf, [], none⟩ a21.results [] N y B') : VCall cfg 21 [canV c] [] N y B' := by
  have k1 := RPieces_ok c h
  have h7 := h.s7
  have h10 := h.n10
  have kn := RNeeds_ok c h
  have hEl := equalN_len c
  have hEs := equalN_succ c
  have hSs := eqS_snoc c
  have hSb := eqS_bd h
  have hnd := needK_lt h c.ships.length
  have hgd : ∀ s, s < c.ships.length → (needK c c.ships.length).getD s 0 = ch c (c.ships.getD s (-1)) := fun s hs => by
    rw [List.getD_eq_getElem?_getD, List.getElem?_eq_getElem (by rw [needK_len]; omega), Option.getD_some, needK_get, if_pos hs]
  have hbit : ∀ s p, ((needK c c.ships.length).getD s 0).testBit p = true → p < c.cost.length := fun s p hb => by rw [h.cl]; exact needK_bit h hb
  have hup := fun p s hs hb => usersK_pos (nd := needK c c.ships.length) (p := p) (m := c.ships.length) (s := s) hs hb
  have hul := fun p => usersK_le (needK c c.ships.length) p c.ships.length
  have hPl := piecesL_len c c.up.length
  have hPg := piecesL_get c c.up.length
  have hcl := h.cl
  generalize hP : piecesL c c.up.length = P at *
  generalize hND : needK c c.ships.length = nd at *
  unfold canV at *
  (refine VCall.mk (fn := a21) rfl rfl rfl ?_; simp only [a21, inV, mkB, nmsL, PT.set])
  (repeat (first | refine VC.seq ?_ | refine VC.block ?_ | refine VC.kill ?_ | refine VC.skip ?_ | refine VC.exit ?_ | refine VC.regA ?_ | refine VC.condT ?_ | refine VC.condF ?_))
  (refine VC.regCA ?_; refine VO.moreA ?_; refine VO.call0A (no_orc _ (by decide)) k1 ?_; refine VO.endA ?_; (repeat (first | refine VC.seq ?_ | refine VC.block ?_ | refine VC.kill ?_ | refine VC.skip ?_ | refine VC.exit ?_ | refine VC.regA ?_ | refine VC.condT ?_ | refine VC.condF ?_)))
  refine VC.loopG (fun (i : Nat) => ⟨inV [p1, p3, p4, p5] [.op 0 p1 0, sl1 P, .os 2 p51 i, vi i] .lf, mkB [(p1, .cells [sl1 c.up, sl1 c.cost, sl1 c.ships]), (p51, .cells (flV (frI (equalN c i))))] .lf, [], none⟩) (fun n i => n = c.ships.length - i ∧ i ≤ c.ships.length) (x := 0) ?_ ⟨rfl, Nat.zero_le _⟩ ?_
  · refine G.adoptA (p := p4) 2 p51 ?_
    have : flV (frI (equalN c 0)) = [] := rfl
    (apply Go.Ab.V.G.weak; constructor <;> simp (config := {decide := true}) only [PT.Le, inV, mkB, PT.set, VSt.kill, VSt.adopt, VSt.alloc, PT.filt, PT.map, List.map_cons, List.map_nil, noref, norefB, deadB, deadV, nos, nm, nmL, nmB, nmE, Pa.eqb, cond_true, cond_false, Bool.not_true, Bool.not_false, Bool.and_true, Bool.true_and, nmL_vi, flV_len, flP_len, flV_nm, flV_ok, flV_pv, flP_map, drop_flP, drop_flV, putC_flV, eqV2, eqV3, bneT, bneF, decide_true, decide_false, frzL_vi, frzL_flV, nmE_ag, nmE_at, frzE_ag, frzE_at, ofAg_len, ofAt_len, atL_vi, nmL_map_p, frzL_map_p, okL_p, toPVs_p, repsZ, nmL_reps, putC_vi, get_flV0, get_flV1, Int.toNat_zero, Int.toNat_one, Int.reduceToNat, eqV_slice, eqV_ptr, eqV_func, nilS, nilP, nilF, nmL_append, true_or, or_true, and_self, true_and, and_true, Option.some.injEq, reduceCtorEq, false_or, or_false, VV.p.injEq, PV.at.injEq, Value.int.injEq, sl1, vi, bl1, vb, nilV, this])
    (all_goals first | rfl | omega | exact ⟨rfl, by omega⟩)
  rintro n i ⟨hn, hi⟩
  simp only [inV, PT.set, mkB]
  have hZl : (flV (frI (equalN c i))).length = i * 2 := by rw [flV_len, frI_len, hEl]
  have hZn := flV_nm (frI (equalN c i))
  have hZs : flV (frI (equalN c (i + 1))) = flV (frI (equalN c i)) ++ [vi (nrm (eqS c (bitsN (nd.getD i 0))) 420).1, vi (nrm (eqS c (bitsN (nd.getD i 0))) 420).2] := by rw [hEs, frI_snoc]
  have hend : i = c.ships.length → flV (frI (equalN c i)) = flV (frI (equalN c c.ships.length)) := fun e => by rw [e]
  generalize flV (frI (equalN c i)) = Z at *
  (repeat (first | refine VC.seq ?_ | refine VC.block ?_ | refine VC.kill ?_ | refine VC.skip ?_ | refine VC.exit ?_ | refine VC.regA ?_ | refine VC.condT ?_ | refine VC.condF ?_))
  refine VC.condA ?_ ?_ <;> intro h' <;> (simp only [decide_eq_true_eq, decide_eq_false_iff_not, bne_iff_ne, ne_eq, bne_eq_false_iff_eq, beq_iff_eq, beq_eq_false_iff_ne, Bool.not_eq_true', Bool.not_eq_false', Bool.and_eq_true, Bool.or_eq_true, Int.natCast_inj] at h')
  · have h' : i < c.ships.length := by omega
    have k2 := kn i h'
    rw [← hgd i h'] at k2
    have hlt := hnd i
    have hbit := hbit i
    have hup := fun p hb => hup p i h' hb
    have k3 := RList_ok (nd.getD i 0) hlt
    have hmem := fun p (hp : p ∈ bitsN (nd.getD i 0)) => (bitsN_mem.1 hp)
    have hbg := bitsL_get (nd.getD i 0)
    have hbl : (bitsL (nd.getD i 0)).length = (bitsN (nd.getD i 0)).length := by simp [bitsL]
    have hb10 := bitsN_len (nd.getD i 0)
    generalize nd.getD i 0 = w at *
    (repeat (first | refine VC.seq ?_ | refine VC.block ?_ | refine VC.kill ?_ | refine VC.skip ?_ | refine VC.exit ?_ | refine VC.regA ?_ | refine VC.condT ?_ | refine VC.condF ?_))
    (refine VC.regCA ?_; refine VO.moreA ?_; refine VO.call0A (no_orc _ (by decide)) k2 ?_)
    (refine VO.moreA ?_; refine VO.call0A (no_orc _ (by decide)) k3 ?_)
    (refine VO.endA ?_; (repeat (first | refine VC.seq ?_ | refine VC.block ?_ | refine VC.kill ?_ | refine VC.skip ?_ | refine VC.exit ?_ | refine VC.regA ?_ | refine VC.condT ?_ | refine VC.condF ?_)))
    refine VC.loopG (fun (k : Nat) => ⟨inV [p1, p3, p4, p5, p6, p7, p8] [.op 0 p1 0, sl1 P, .os 2 p51 i, vi i, vi (eqS c ((bitsN w).take k) : Nat), sl1 (bitsL w), vi k] .lf, mkB [(p1, .cells [sl1 c.up, sl1 c.cost, sl1 c.ships]), (p51, .cells Z)] .lf, [], none⟩) (fun n k => n = (bitsN w).length - k ∧ k ≤ (bitsN w).length) (x := 0) ?_ ⟨rfl, Nat.zero_le _⟩ ?_
    · have h0 : eqS c ((bitsN w).take 0) = 0 := by simp [eqS]
      rw [h0]
      (apply Go.Ab.V.G.weak; constructor <;> simp (config := {decide := true}) only [PT.Le, inV, mkB, PT.set, VSt.kill, VSt.adopt, VSt.alloc, PT.filt, PT.map, List.map_cons, List.map_nil, noref, norefB, deadB, deadV, nos, nm, nmL, nmB, nmE, Pa.eqb, cond_true, cond_false, Bool.not_true, Bool.not_false, Bool.and_true, Bool.true_and, nmL_vi, flV_len, flP_len, flV_nm, flV_ok, flV_pv, flP_map, drop_flP, drop_flV, putC_flV, eqV2, eqV3, bneT, bneF, decide_true, decide_false, frzL_vi, frzL_flV, nmE_ag, nmE_at, frzE_ag, frzE_at, ofAg_len, ofAt_len, atL_vi, nmL_map_p, frzL_map_p, okL_p, toPVs_p, repsZ, nmL_reps, putC_vi, get_flV0, get_flV1, Int.toNat_zero, Int.toNat_one, Int.reduceToNat, eqV_slice, eqV_ptr, eqV_func, nilS, nilP, nilF, nmL_append, true_or, or_true, and_self, true_and, and_true, Option.some.injEq, reduceCtorEq, false_or, or_false, VV.p.injEq, PV.at.injEq, Value.int.injEq, sl1, vi, bl1, vb, nilV, hZn, sl1])
      (all_goals first | rfl | omega | exact ⟨rfl, by omega⟩)
    rintro n k ⟨hn, hk⟩
    simp only [inV, PT.set, mkB]
    have hA := hSb (bitsN w) k hk
    have hAs := hSs (bitsN w) k
    have hend : k = (bitsN w).length → eqS c ((bitsN w).take k) = eqS c (bitsN w) := fun e => by rw [e, List.take_length]
    generalize eqS c ((bitsN w).take k) = A at *
    (repeat (first | refine VC.seq ?_ | refine VC.block ?_ | refine VC.kill ?_ | refine VC.skip ?_ | refine VC.exit ?_ | refine VC.regA ?_ | refine VC.condT ?_ | refine VC.condF ?_))
    refine VC.condA ?_ ?_ <;> intro h2 <;> (simp only [decide_eq_true_eq, decide_eq_false_iff_not, bne_iff_ne, ne_eq, bne_eq_false_iff_eq, beq_iff_eq, beq_eq_false_iff_ne, Bool.not_eq_true', Bool.not_eq_false', Bool.and_eq_true, Bool.or_eq_true, Int.natCast_inj] at h2)
    · have h2 : k < (bitsN w).length := by omega
      have h3 : k < (bitsL w).length := by omega
      have hgk := hbg k h3
      have hAs := hAs h2
      have hm := hmem _ (List.getElem_mem h2)
      generalize hp : (bitsN w)[k] = p at *
      have hpc := hbit p hm.2
      have hu0 := hup p hm.2
      have hu7 := hul p
      have hpP : p < P.length := by omega
      have hPp := hPg p hpP
      have hcd : c.cost.getD p 0 = c.cost[p] := by rw [List.getD_eq_getElem?_getD, List.getElem?_eq_getElem hpc]; rfl
      have hcb := cost_getD h p
      rw [hcd] at hcb hAs
      obtain ⟨x, hx⟩ := Int.eq_ofNat_of_zero_le hcb.1
      rw [hx] at hAs hcb
      rw [Int.toNat_natCast] at hAs
      generalize usersK nd p c.ships.length = u at *
      have hu0' : ¬(u : Int) = 0 := by omega
      have hq := q420 (u := u)
      have hz : 420 / u ≤ 420 := Nat.div_le_self ..
      generalize 420 / u = z at *
      have hxz := Nat.mul_le_mul (show x ≤ 1000 by omega) hz
      have hm1 : (x : Int) * (z : Int) = ((x * z : Nat) : Int) := by rw [Int.natCast_mul]
      generalize x * z = y at *
      have hw1 := wrapI (x := (y : Int)) (by omega) (by omega)
      have hw2 := wrapI (x := (A : Int) + (y : Int)) (by omega) (by omega)
      have hc : (A : Int) + (y : Int) = ((A + y : Nat) : Int) := by omega
      rw [← hAs] at hc
      (repeat (first | refine VC.seq ?_ | refine VC.block ?_ | refine VC.kill ?_ | refine VC.skip ?_ | refine VC.exit ?_ | refine VC.regA ?_ | refine VC.condT ?_ | refine VC.condF ?_))
      ((try (apply VC.regU; · ((simp (config := {decide := false, maxSteps := 1000000}) (disch := omega) only [vev_call, putC_c0, putC_n0, putC_cs, ble0, List.getElem?_cons_zero, List.getElem?_cons_succ, runU, isCall, wantV, vev, evV, ofVal, ofAtom, atomB, cond_true, cond_false, PT.get, PT.set, PT.filt, PT.map, Option.getD_some, Option.getD_none, ret1V, ret1X, v_ld, v_ias, v_iad, v_fad, v_slsl, v_slarr, v_st, v_app, v_cpy, v_clr, v_len, v_look, v_mset, elsV, partV, newV, free, atV, atI, atL, toVal, cellsV, okV, VSt.put, VSt.kill, VSt.alloc, VSt.frz, VSt.adopt, noref, norefB, deadB, deadV, nos, nm, nmL, nmB, nmE, Pa.eqb, Bool.not_false, Bool.not_true, Bool.and_true, Bool.true_and, Bool.false_and, Bool.and_false, bin, intOps, intBin, cvt, un, goInt, bndsV, bndV, Option.map_some, Option.map_none, List.map_cons, List.map_nil, Int.toNat_natCast, Nat.mul_one, Nat.zero_add, beq_true, beq_false, beq_self_eq_true, List.length_map, List.length_cons, List.length_nil, List.length_append, fillV, pEvV, repsV, List.append_nil, List.nil_append, if_pos, if_neg, reduceIte, List.getElem?_map, List.getElem?_drop, Nat.add_zero, List.getElem?_eq_getElem, Go.IntWalk.i64_in, wrap_u64, tmod_pos, eq_self, true_and, and_true, and_self, List.all_cons, List.all_nil, nmL_vi, flV_len, flP_len, flV_nm, flV_ok, flV_pv, flP_map, drop_flP, drop_flV, putC_flV, eqV2, eqV3, bneT, bneF, decide_true, decide_false, frzL_vi, frzL_flV, nmE_ag, nmE_at, frzE_ag, frzE_at, ofAg_len, ofAt_len, atL_vi, nmL_map_p, frzL_map_p, okL_p, toPVs_p, repsZ, nmL_reps, putC_vi, get_flV0, get_flV1, Int.toNat_zero, Int.toNat_one, Int.reduceToNat, eqV_slice, eqV_ptr, eqV_func, nilS, nilP, nilF, nmL_append, okL_vi, toPVs_vi, toPVs, toPV, frzV, frzL, frzB, resVV, vi, vb, nilV, sl1, bl1, pi, foldV, max2, min2, max_eq, min_eq, Int.tdiv_eq_ediv_of_nonneg, Int.cast_ofNat_Int, Option.isSome_none, Option.isSome_some, Option.isNone_none, Option.isNone_some, and_false, false_and, sl2, sl1P, slP, min_cast, take_map_pi, map_pi, Nat.sub_zero, Nat.zero_mul, List.length_take, decide_eq_true, decide_eq_false, Bool.true_eq_false, Bool.false_eq_true, beqT, beqF, ibeq, ibne, List.take_zero, List.take_succ_cons, List.drop_zero, List.drop_succ_cons, List.drop_nil, List.take_nil, List.cons_append, Bool.not_true, Bool.not_false, hgk, hx, hPp, hq, hm1, hw1, hw2]); rfl))); (repeat (first | refine VC.seq ?_ | refine VC.block ?_ | refine VC.kill ?_ | refine VC.skip ?_ | refine VC.exit ?_ | refine VC.regA ?_ | refine VC.condT ?_ | refine VC.condF ?_)))
      refine ⟨_, k + 1, ?_, ⟨rfl, by omega⟩, ?_⟩
      · omega
      · (apply Go.Ab.V.G.weak; constructor <;> simp (config := {decide := true}) only [PT.Le, inV, mkB, PT.set, VSt.kill, VSt.adopt, VSt.alloc, PT.filt, PT.map, List.map_cons, List.map_nil, noref, norefB, deadB, deadV, nos, nm, nmL, nmB, nmE, Pa.eqb, cond_true, cond_false, Bool.not_true, Bool.not_false, Bool.and_true, Bool.true_and, nmL_vi, flV_len, flP_len, flV_nm, flV_ok, flV_pv, flP_map, drop_flP, drop_flV, putC_flV, eqV2, eqV3, bneT, bneF, decide_true, decide_false, frzL_vi, frzL_flV, nmE_ag, nmE_at, frzE_ag, frzE_at, ofAg_len, ofAt_len, atL_vi, nmL_map_p, frzL_map_p, okL_p, toPVs_p, repsZ, nmL_reps, putC_vi, get_flV0, get_flV1, Int.toNat_zero, Int.toNat_one, Int.reduceToNat, eqV_slice, eqV_ptr, eqV_func, nilS, nilP, nilF, nmL_append, true_or, or_true, and_self, true_and, and_true, Option.some.injEq, reduceCtorEq, false_or, or_false, VV.p.injEq, PV.at.injEq, Value.int.injEq, sl1, vi, bl1, vb, nilV, hZn, sl1, ← hc])
        (all_goals first | rfl | omega | exact ⟨rfl, by omega⟩)
    · have h2 : k = (bitsN w).length := by omega
      rw [hend h2] at hA
      rw [hend h2]
      have k4 := fraction_ok (eqS c (bitsN w)) 420 (by omega) (by decide) (by decide)
      generalize nrm (eqS c (bitsN w)) 420 = R at *
      (repeat (first | refine VC.seq ?_ | refine VC.block ?_ | refine VC.kill ?_ | refine VC.skip ?_ | refine VC.exit ?_ | refine VC.regA ?_ | refine VC.condT ?_ | refine VC.condF ?_))
      (refine VC.regCA ?_; refine VO.moreA ?_; refine VO.call0A (no_orc _ (by decide)) k4 ?_)
      apply VO.uptoE
      · (simp (config := {decide := false, maxSteps := 1000000}) (disch := omega) only [vev_call, putC_c0, putC_n0, putC_cs, ble0, List.getElem?_cons_zero, List.getElem?_cons_succ, runU, isCall, wantV, vev, evV, ofVal, ofAtom, atomB, cond_true, cond_false, PT.get, PT.set, PT.filt, PT.map, Option.getD_some, Option.getD_none, ret1V, ret1X, v_ld, v_ias, v_iad, v_fad, v_slsl, v_slarr, v_st, v_app, v_cpy, v_clr, v_len, v_look, v_mset, elsV, partV, newV, free, atV, atI, atL, toVal, cellsV, okV, VSt.put, VSt.kill, VSt.alloc, VSt.frz, VSt.adopt, noref, norefB, deadB, deadV, nos, nm, nmL, nmB, nmE, Pa.eqb, Bool.not_false, Bool.not_true, Bool.and_true, Bool.true_and, Bool.false_and, Bool.and_false, bin, intOps, intBin, cvt, un, goInt, bndsV, bndV, Option.map_some, Option.map_none, List.map_cons, List.map_nil, Int.toNat_natCast, Nat.mul_one, Nat.zero_add, beq_true, beq_false, beq_self_eq_true, List.length_map, List.length_cons, List.length_nil, List.length_append, fillV, pEvV, repsV, List.append_nil, List.nil_append, if_pos, if_neg, reduceIte, List.getElem?_map, List.getElem?_drop, Nat.add_zero, List.getElem?_eq_getElem, Go.IntWalk.i64_in, wrap_u64, tmod_pos, eq_self, true_and, and_true, and_self, List.all_cons, List.all_nil, nmL_vi, flV_len, flP_len, flV_nm, flV_ok, flV_pv, flP_map, drop_flP, drop_flV, putC_flV, eqV2, eqV3, bneT, bneF, decide_true, decide_false, frzL_vi, frzL_flV, nmE_ag, nmE_at, frzE_ag, frzE_at, ofAg_len, ofAt_len, atL_vi, nmL_map_p, frzL_map_p, okL_p, toPVs_p, repsZ, nmL_reps, putC_vi, get_flV0, get_flV1, Int.toNat_zero, Int.toNat_one, Int.reduceToNat, eqV_slice, eqV_ptr, eqV_func, nilS, nilP, nilF, nmL_append, okL_vi, toPVs_vi, toPVs, toPV, frzV, frzL, frzB, resVV, vi, vb, nilV, sl1, bl1, pi, foldV, max2, min2, max_eq, min_eq, Int.tdiv_eq_ediv_of_nonneg, Int.cast_ofNat_Int, Option.isSome_none, Option.isSome_some, Option.isNone_none, Option.isNone_some, and_false, false_and, sl2, sl1P, slP, min_cast, take_map_pi, map_pi, Nat.sub_zero, Nat.zero_mul, List.length_take, decide_eq_true, decide_eq_false, Bool.true_eq_false, Bool.false_eq_true, beqT, beqF, ibeq, ibne, List.take_zero, List.take_succ_cons, List.drop_zero, List.drop_succ_cons, List.drop_nil, List.take_nil, List.cons_append, Bool.not_true, Bool.not_false, hZn, hZl])
        rfl
      (repeat (first | refine VC.seq ?_ | refine VC.block ?_ | refine VC.kill ?_ | refine VC.skip ?_ | refine VC.exit ?_ | refine VC.regA ?_ | refine VC.condT ?_ | refine VC.condF ?_))
      refine ⟨_, i + 1, ?_, ⟨rfl, by omega⟩, ?_⟩
      · omega
      · (apply Go.Ab.V.G.weak; constructor <;> simp (config := {decide := true}) only [PT.Le, inV, mkB, PT.set, VSt.kill, VSt.adopt, VSt.alloc, PT.filt, PT.map, List.map_cons, List.map_nil, noref, norefB, deadB, deadV, nos, nm, nmL, nmB, nmE, Pa.eqb, cond_true, cond_false, Bool.not_true, Bool.not_false, Bool.and_true, Bool.true_and, nmL_vi, flV_len, flP_len, flV_nm, flV_ok, flV_pv, flP_map, drop_flP, drop_flV, putC_flV, eqV2, eqV3, bneT, bneF, decide_true, decide_false, frzL_vi, frzL_flV, nmE_ag, nmE_at, frzE_ag, frzE_at, ofAg_len, ofAt_len, atL_vi, nmL_map_p, frzL_map_p, okL_p, toPVs_p, repsZ, nmL_reps, putC_vi, get_flV0, get_flV1, Int.toNat_zero, Int.toNat_one, Int.reduceToNat, eqV_slice, eqV_ptr, eqV_func, nilS, nilP, nilF, nmL_append, true_or, or_true, and_self, true_and, and_true, Option.some.injEq, reduceCtorEq, false_or, or_false, VV.p.injEq, PV.at.injEq, Value.int.injEq, sl1, vi, bl1, vb, nilV, hZs, sl1])
        (all_goals first | rfl | omega | exact ⟨rfl, by omega⟩)
  · have h' : i = c.ships.length := by omega
    have hz := hend h'
    subst hz h'
    (repeat (first | refine VC.seq ?_ | refine VC.block ?_ | refine VC.kill ?_ | refine VC.skip ?_ | refine VC.exit ?_ | refine VC.regA ?_ | refine VC.condT ?_ | refine VC.condF ?_))
    refine VC.ret (Fin_ghost ?_ hf)
    (apply Go.Ab.V.G.weak; constructor <;> simp (config := {decide := true}) only [PT.Le, inV, mkB, PT.set, VSt.kill, VSt.adopt, VSt.alloc, PT.filt, PT.map, List.map_cons, List.map_nil, noref, norefB, deadB, deadV, nos, nm, nmL, nmB, nmE, Pa.eqb, cond_true, cond_false, Bool.not_true, Bool.not_false, Bool.and_true, Bool.true_and, nmL_vi, flV_len, flP_len, flV_nm, flV_ok, flV_pv, flP_map, drop_flP, drop_flV, putC_flV, eqV2, eqV3, bneT, bneF, decide_true, decide_false, frzL_vi, frzL_flV, nmE_ag, nmE_at, frzE_ag, frzE_at, ofAg_len, ofAt_len, atL_vi, nmL_map_p, frzL_map_p, okL_p, toPVs_p, repsZ, nmL_reps, putC_vi, get_flV0, get_flV1, Int.toNat_zero, Int.toNat_one, Int.reduceToNat, eqV_slice, eqV_ptr, eqV_func, nilS, nilP, nilF, nmL_append, true_or, or_true, and_self, true_and, and_true, Option.some.injEq, reduceCtorEq, false_or, or_false, VV.p.injEq, PV.at.injEq, Value.int.injEq, sl1, vi, bl1, vb, nilV])
theorem REqualO_ok (c : Can) (h : okC c) : VCall cfg 21 [canV c] [] [p51] (.os 2 p51 c.ships.length) [(p51, .cells (flV (frI (equalN c c.ships.length))))] := by
  refine REqual_core c h _ _ _ (Fin.of rfl rfl ?_ rfl rfl ?_)
  · simp [mkB, PT.set, PT.Le, inV]
  · simp [subs, nm, nmL, nmsB, nmB, flV_nm, nos, Pa.eqb]
end Go.Ab.Dues

namespace Go.Ab.V
end Go.Ab.V
namespace Go.Ab.Dues
open Go.Ab.V
set_option maxRecDepth 100000
end Go.Ab.Dues

namespace Go.Ab.Dues
open Go.Ab.V
set_option maxRecDepth 100000
/-! ### Fair lists -/
set_option maxHeartbeats 2000000 in
theorem sum64_ok (l : List Int) (hl : l.length ≤ 100) (hb : ∀ x ∈ l, -10000000000000 ≤ x ∧ x ≤ 10000000000000) : VCall cfg 79 [sl1 l] [] [] (vi (sumL l)) [] := by
  have hbd := sumL_bd l 10000000000000 hb
  (refine VCall.mk (fn := a79) rfl rfl rfl ?_; simp only [a79, inV, mkB, nmsL, PT.set])
  (repeat (first | refine VC.seq ?_ | refine VC.block ?_ | refine VC.kill ?_ | refine VC.skip ?_ | refine VC.exit ?_ | refine VC.regA ?_ | refine VC.condT ?_ | refine VC.condF ?_))
  refine VC.loopG (fun (i : Nat) => ⟨inV [p3, p6, p7, p8] [vi (sumL (l.take i)), sl1 l, vi l.length, vi i] .lf, .lf, [], none⟩) (fun n i => n = l.length - i ∧ i ≤ l.length) (x := 0) ?_ ⟨rfl, Nat.zero_le _⟩ ?_
  · have : sumL (l.take 0) = 0 := rfl
    (apply Go.Ab.V.G.weak; constructor <;> simp (config := {decide := true}) only [PT.Le, inV, mkB, PT.set, VSt.kill, VSt.adopt, VSt.alloc, PT.filt, PT.map, List.map_cons, List.map_nil, noref, norefB, deadB, deadV, nos, nm, nmL, nmB, nmE, Pa.eqb, cond_true, cond_false, Bool.not_true, Bool.not_false, Bool.and_true, Bool.true_and, nmL_vi, flV_len, flP_len, flV_nm, flV_ok, flV_pv, flP_map, drop_flP, drop_flV, putC_flV, eqV2, eqV3, bneT, bneF, decide_true, decide_false, frzL_vi, frzL_flV, nmE_ag, nmE_at, frzE_ag, frzE_at, ofAg_len, ofAt_len, atL_vi, nmL_map_p, frzL_map_p, okL_p, toPVs_p, repsZ, nmL_reps, putC_vi, get_flV0, get_flV1, Int.toNat_zero, Int.toNat_one, Int.reduceToNat, eqV_slice, eqV_ptr, eqV_func, nilS, nilP, nilF, nmL_append, true_or, or_true, and_self, true_and, and_true, Option.some.injEq, reduceCtorEq, false_or, or_false, VV.p.injEq, PV.at.injEq, Value.int.injEq, sl1, vi, bl1, vb, nilV, sl1, this])
    (all_goals first | rfl | omega | exact ⟨rfl, by omega⟩)
  rintro n i ⟨hn, hi⟩
  simp only [inV, PT.set]
  (repeat (first | refine VC.seq ?_ | refine VC.block ?_ | refine VC.kill ?_ | refine VC.skip ?_ | refine VC.exit ?_ | refine VC.regA ?_ | refine VC.condT ?_ | refine VC.condF ?_))
  refine VC.condA ?_ ?_ <;> intro h <;> (simp only [decide_eq_true_eq, decide_eq_false_iff_not, bne_iff_ne, ne_eq, bne_eq_false_iff_eq, beq_iff_eq, beq_eq_false_iff_ne, Bool.not_eq_true', Bool.not_eq_false', Bool.and_eq_true, Bool.or_eq_true, Int.natCast_inj] at h)
  · have h : i < l.length := by omega
    have h1 := hbd i hi
    have h2 := hb _ (List.getElem_mem h)
    have h3 := sumL_take h
    have h4 : i * 10000000000000 ≤ 100 * 10000000000000 := Nat.mul_le_mul_right _ (by omega)
    (repeat (first | refine VC.seq ?_ | refine VC.block ?_ | refine VC.kill ?_ | refine VC.skip ?_ | refine VC.exit ?_ | refine VC.regA ?_ | refine VC.condT ?_ | refine VC.condF ?_))
    refine ⟨_, i + 1, ?_, ⟨rfl, by omega⟩, ?_⟩
    · omega
    · (apply Go.Ab.V.G.weak; constructor <;> simp (config := {decide := true}) only [PT.Le, inV, mkB, PT.set, VSt.kill, VSt.adopt, VSt.alloc, PT.filt, PT.map, List.map_cons, List.map_nil, noref, norefB, deadB, deadV, nos, nm, nmL, nmB, nmE, Pa.eqb, cond_true, cond_false, Bool.not_true, Bool.not_false, Bool.and_true, Bool.true_and, nmL_vi, flV_len, flP_len, flV_nm, flV_ok, flV_pv, flP_map, drop_flP, drop_flV, putC_flV, eqV2, eqV3, bneT, bneF, decide_true, decide_false, frzL_vi, frzL_flV, nmE_ag, nmE_at, frzE_ag, frzE_at, ofAg_len, ofAt_len, atL_vi, nmL_map_p, frzL_map_p, okL_p, toPVs_p, repsZ, nmL_reps, putC_vi, get_flV0, get_flV1, Int.toNat_zero, Int.toNat_one, Int.reduceToNat, eqV_slice, eqV_ptr, eqV_func, nilS, nilP, nilF, nmL_append, true_or, or_true, and_self, true_and, and_true, Option.some.injEq, reduceCtorEq, false_or, or_false, VV.p.injEq, PV.at.injEq, Value.int.injEq, sl1, vi, bl1, vb, nilV, sl1, h3])
      (all_goals first | rfl | omega | exact ⟨rfl, by omega⟩)
  · have h : i = l.length := by omega
    subst h
    rw [List.take_length]
    (repeat (first | refine VC.seq ?_ | refine VC.block ?_ | refine VC.kill ?_ | refine VC.skip ?_ | refine VC.exit ?_ | refine VC.regA ?_ | refine VC.condT ?_ | refine VC.condF ?_))
    exact VC.ret (Fin.A rfl)
/-- A share, within its limits. -/
def okQ (q : Int × Int) : Prop := (-1000000000 ≤ q.1 ∧ q.1 ≤ 1000000000) ∧ 1 ≤ q.2 ∧ 5040 % q.2 = 0 ∧ Int.gcd q.1 q.2 = 1
instance (q : Int × Int) : Decidable (okQ q) := by unfold okQ; infer_instance
def okSh (c : Can) (l : List (Int × Int)) : Prop := l.length = c.ships.length ∧ ∀ q ∈ l, okQ q
instance (c : Can) (l : List (Int × Int)) : Decidable (okSh c l) := by unfold okSh; infer_instance
theorem okQ_le {q : Int × Int} (h : okQ q) : q.2 ≤ 5040 := by
  obtain ⟨_, h1, h2, _⟩ := h
  exact Int.le_of_dvd (by decide) (Int.dvd_of_emod_eq_zero h2)
def pay (q : Int × Int) : Int := q.1 * (5040 / q.2)
def ovL (l : List (Int × Int)) (S : List Nat) : List Int := S.map fun s => pay (l.getD s (0, 1))
def overS (c : Can) (l : List (Int × Int)) (S : Nat) : Int := sumL (ovL l (bitsN S)) - 5040 * costS c S
theorem mul_bd {x : Int} {z : Nat} (hx : -1000000000 ≤ x ∧ x ≤ 1000000000) (hz : z ≤ 5040) : -5040000000000 ≤ x * (z : Int) ∧ x * (z : Int) ≤ 5040000000000 := by
  have h0 : (0 : Int) ≤ z := Int.natCast_nonneg z
  have h1 := Int.mul_le_mul_of_nonneg_right hx.1 h0
  have h2 := Int.mul_le_mul_of_nonneg_right hx.2 h0
  constructor <;> omega
theorem pay_bd {q : Int × Int} (h : okQ q) : -5040000000000 ≤ pay q ∧ pay q ≤ 5040000000000 := by
  obtain ⟨u, hu⟩ := Int.eq_ofNat_of_zero_le (show 0 ≤ q.2 by have := h.2.1; omega)
  unfold pay
  have e : (5040 : Int) / q.2 = ((5040 / u : Nat) : Int) := by rw [hu]; rfl
  rw [e]
  exact mul_bd h.1 (Nat.div_le_self ..)
theorem pay_zero : pay (0, 1) = 0 := rfl
theorem ovL_bd {c : Can} {l : List (Int × Int)} (h : okSh c l) (S : List Nat) : ∀ x ∈ ovL l S, -10000000000000 ≤ x ∧ x ≤ 10000000000000 := by
  intro x hx
  obtain ⟨s, _, rfl⟩ := List.mem_map.1 hx
  rw [List.getD_eq_getElem?_getD]
  cases hc : l[s]? with
  | none => rw [Option.getD_none, pay_zero]; omega
  | some q =>
    have := pay_bd (h.2 q (List.mem_of_getElem? hc))
    rw [Option.getD_some]; omega
theorem q5040 {u : Nat} : IntKind.i64.wrap ((5040 : Int) / (u : Int)) = ((5040 / u : Nat) : Int) := quoI (a := 5040) (g := u) (by decide)
set_option maxHeartbeats 8000000 in
theorem over_ok (c : Can) (h : okC c) (M : List (Nat × Int)) (hM : okM c M) (l : List (Int × Int)) (hl : okSh c l) (S : Nat) (hS : S < 2 ^ c.ships.length) :
    VCall cfg 62 [.op 0 p16 0, slP l, vi S] [(p16, .cells (flC c (needK c c.ships.length) p14)), (p14, .map (esM M))] [] (vi (overS c l S)) [(p16, .cells (flC c (needK c c.ships.length) p14)), (p14, .map (esM (memo c M S)))] := by
  have h7 := h.s7
  have hS7 : S < 1024 := Nat.lt_of_lt_of_le hS (show 2 ^ c.ships.length ≤ 2 ^ 10 from Nat.pow_le_pow_right (by decide) (by omega))
  have k1 := members_ok S hS7
  have kc := cost_ok c h M hM S hS
  have hcb := costS_bd h S
  have hvb := ovL_bd hl (bitsN S)
  have k2 := sum64_ok (ovL l (bitsN S)) (by unfold ovL; rw [List.length_map]; have := bitsN_len S; omega) hvb
  have hsb := sumL_bd (ovL l (bitsN S)) 10000000000000 hvb (ovL l (bitsN S)).length (Nat.le_refl _)
  rw [List.take_length] at hsb
  have hvl : (ovL l (bitsN S)).length = (bitsN S).length := by simp [ovL]
  have hb10 := bitsN_len S
  have hov : overS c l S = sumL (ovL l (bitsN S)) - 5040 * costS c S := rfl
  rw [hov]
  have hmem := fun p (hp : p ∈ bitsN S) => (bitsN_mem.1 hp)
  have hbg := bitsL_get S
  have hbl : (bitsL S).length = (bitsN S).length := by simp [bitsL]
  have htk : ∀ k (hk : k < (bitsN S).length), ovL l ((bitsN S).take (k + 1)) = ovL l ((bitsN S).take k) ++ [pay (l.getD (bitsN S)[k] (0, 1))] := fun k hk => by
    rw [List.take_add_one, List.getElem?_eq_getElem hk]; unfold ovL; rw [List.map_append]; rfl
  have htl : ∀ k, k ≤ (bitsN S).length → (ovL l ((bitsN S).take k)).length = k := fun k hk => by unfold ovL; rw [List.length_map, List.length_take]; omega
  have hnm := fl_nm c (needK c c.ships.length) p14
  have hfz := fl_frz c (needK c c.ships.length) p14
  generalize flC c (needK c c.ships.length) p14 = FL at *
  have e1 := es_nm M
  have z1 := fun a cs => es_frz a cs M
  generalize esM M = E1 at *
  have e2 := es_nm (memo c M S)
  generalize esM (memo c M S) = E2 at *
  generalize costS c S = x at *
  have hll := hl.1
  have hq := hl.2
  have hble : ∀ s, s ∈ bitsN S → s < l.length := fun s hs => by rw [hll]; exact bit_lt hS (hmem s hs).2
  (refine VCall.mk (fn := a62) rfl rfl rfl ?_; simp only [a62, inV, mkB, nmsL, PT.set])
  (repeat (first | refine VC.seq ?_ | refine VC.block ?_ | refine VC.kill ?_ | refine VC.skip ?_ | refine VC.exit ?_ | refine VC.regA ?_ | refine VC.condT ?_ | refine VC.condF ?_))
  (refine VC.regCA ?_; refine VO.moreA ?_; refine VO.call0A (no_orc _ (by decide)) k1 ?_; refine VO.endA ?_; (repeat (first | refine VC.seq ?_ | refine VC.block ?_ | refine VC.kill ?_ | refine VC.skip ?_ | refine VC.exit ?_ | refine VC.regA ?_ | refine VC.condT ?_ | refine VC.condF ?_)))
  refine VC.loopG (fun (k : Nat) => ⟨inV [p0, p1, p2, p7, p11, p12, p13] [.op 0 p16 0, slP l, vi S, .os 1 p31 k, sl1 (bitsL S), vi (bitsL S).length, vi k] .lf, mkB [(p16, .cells FL), (p14, .map E1), (p31, .cells ((ovL l ((bitsN S).take k)).map vi))] .lf, [p16, p14], none⟩) (fun n k => n = (bitsN S).length - k ∧ k ≤ (bitsN S).length) (x := 0) ?_ ⟨rfl, Nat.zero_le _⟩ ?_
  · refine G.adoptA (p := p7) 1 p31 ?_
    have : ovL l ((bitsN S).take 0) = [] := rfl
    (apply Go.Ab.V.G.weak; constructor <;> simp (config := {decide := true}) only [PT.Le, inV, mkB, PT.set, VSt.kill, VSt.adopt, VSt.alloc, PT.filt, PT.map, List.map_cons, List.map_nil, noref, norefB, deadB, deadV, nos, nm, nmL, nmB, nmE, Pa.eqb, cond_true, cond_false, Bool.not_true, Bool.not_false, Bool.and_true, Bool.true_and, nmL_vi, flV_len, flP_len, flV_nm, flV_ok, flV_pv, flP_map, drop_flP, drop_flV, putC_flV, eqV2, eqV3, bneT, bneF, decide_true, decide_false, frzL_vi, frzL_flV, nmE_ag, nmE_at, frzE_ag, frzE_at, ofAg_len, ofAt_len, atL_vi, nmL_map_p, frzL_map_p, okL_p, toPVs_p, repsZ, nmL_reps, putC_vi, get_flV0, get_flV1, Int.toNat_zero, Int.toNat_one, Int.reduceToNat, eqV_slice, eqV_ptr, eqV_func, nilS, nilP, nilF, nmL_append, true_or, or_true, and_self, true_and, and_true, Option.some.injEq, reduceCtorEq, false_or, or_false, VV.p.injEq, PV.at.injEq, Value.int.injEq, sl1, vi, bl1, vb, nilV, this, hnm, e1, sl1, slP])
    (all_goals first | rfl | omega | exact ⟨rfl, by omega⟩)
  rintro n k ⟨hn, hk⟩
  simp only [inV, PT.set, mkB, slP]
  have htk := htk k
  have htl := htl k hk
  have hend : k = (bitsN S).length → ovL l ((bitsN S).take k) = ovL l (bitsN S) := fun e => by rw [e, List.take_length]
  generalize ovL l ((bitsN S).take k) = V at *
  (repeat (first | refine VC.seq ?_ | refine VC.block ?_ | refine VC.kill ?_ | refine VC.skip ?_ | refine VC.exit ?_ | refine VC.regA ?_ | refine VC.condT ?_ | refine VC.condF ?_))
  refine VC.condA ?_ ?_ <;> intro h2 <;> (simp only [decide_eq_true_eq, decide_eq_false_iff_not, bne_iff_ne, ne_eq, bne_eq_false_iff_eq, beq_iff_eq, beq_eq_false_iff_ne, Bool.not_eq_true', Bool.not_eq_false', Bool.and_eq_true, Bool.or_eq_true, Int.natCast_inj] at h2)
  · have h2 : k < (bitsN S).length := by omega
    have h3 : k < (bitsL S).length := by omega
    have hgk := hbg k h3
    have htk := htk h2
    have hsl := hble _ (List.getElem_mem h2)
    generalize (bitsN S)[k] = s at *
    have hqs := hq _ (List.getElem_mem hsl)
    have hgd : l.getD s (0, 1) = l[s] := by rw [List.getD_eq_getElem?_getD, List.getElem?_eq_getElem hsl]; rfl
    rw [hgd] at htk
    obtain ⟨u, hu⟩ := Int.eq_ofNat_of_zero_le (show 0 ≤ l[s].2 by have := hqs.2.1; omega)
    have hu0 : ¬(u : Int) = 0 := by have := hqs.2.1; omega
    have hpb := pay_bd hqs
    have hpe : pay l[s] = l[s].1 * ((5040 / u : Nat) : Int) := by unfold pay; rw [hu]; rfl
    rw [hpe] at htk hpb
    have hq5 := q5040 (u := u)
    generalize 5040 / u = z at *
    generalize hy : l[s].1 * (z : Int) = y at *
    have hw := wrapI (x := y) (by omega) (by omega)
    (repeat (first | refine VC.seq ?_ | refine VC.block ?_ | refine VC.kill ?_ | refine VC.skip ?_ | refine VC.exit ?_ | refine VC.regA ?_ | refine VC.condT ?_ | refine VC.condF ?_))
    ((try (apply VC.regU; · ((simp (config := {decide := false, maxSteps := 1000000}) (disch := omega) only [vev_call, putC_c0, putC_n0, putC_cs, ble0, List.getElem?_cons_zero, List.getElem?_cons_succ, runU, isCall, wantV, vev, evV, ofVal, ofAtom, atomB, cond_true, cond_false, PT.get, PT.set, PT.filt, PT.map, Option.getD_some, Option.getD_none, ret1V, ret1X, v_ld, v_ias, v_iad, v_fad, v_slsl, v_slarr, v_st, v_app, v_cpy, v_clr, v_len, v_look, v_mset, elsV, partV, newV, free, atV, atI, atL, toVal, cellsV, okV, VSt.put, VSt.kill, VSt.alloc, VSt.frz, VSt.adopt, noref, norefB, deadB, deadV, nos, nm, nmL, nmB, nmE, Pa.eqb, Bool.not_false, Bool.not_true, Bool.and_true, Bool.true_and, Bool.false_and, Bool.and_false, bin, intOps, intBin, cvt, un, goInt, bndsV, bndV, Option.map_some, Option.map_none, List.map_cons, List.map_nil, Int.toNat_natCast, Nat.mul_one, Nat.zero_add, beq_true, beq_false, beq_self_eq_true, List.length_map, List.length_cons, List.length_nil, List.length_append, fillV, pEvV, repsV, List.append_nil, List.nil_append, if_pos, if_neg, reduceIte, List.getElem?_map, List.getElem?_drop, Nat.add_zero, List.getElem?_eq_getElem, Go.IntWalk.i64_in, wrap_u64, tmod_pos, eq_self, true_and, and_true, and_self, List.all_cons, List.all_nil, nmL_vi, flV_len, flP_len, flV_nm, flV_ok, flV_pv, flP_map, drop_flP, drop_flV, putC_flV, eqV2, eqV3, bneT, bneF, decide_true, decide_false, frzL_vi, frzL_flV, nmE_ag, nmE_at, frzE_ag, frzE_at, ofAg_len, ofAt_len, atL_vi, nmL_map_p, frzL_map_p, okL_p, toPVs_p, repsZ, nmL_reps, putC_vi, get_flV0, get_flV1, Int.toNat_zero, Int.toNat_one, Int.reduceToNat, eqV_slice, eqV_ptr, eqV_func, nilS, nilP, nilF, nmL_append, okL_vi, toPVs_vi, toPVs, toPV, frzV, frzL, frzB, resVV, vi, vb, nilV, sl1, bl1, pi, foldV, max2, min2, max_eq, min_eq, Int.tdiv_eq_ediv_of_nonneg, Int.cast_ofNat_Int, Option.isSome_none, Option.isSome_some, Option.isNone_none, Option.isNone_some, and_false, false_and, sl2, sl1P, slP, min_cast, take_map_pi, map_pi, Nat.sub_zero, Nat.zero_mul, List.length_take, decide_eq_true, decide_eq_false, Bool.true_eq_false, Bool.false_eq_true, beqT, beqF, ibeq, ibne, List.take_zero, List.take_succ_cons, List.drop_zero, List.drop_succ_cons, List.drop_nil, List.take_nil, List.cons_append, Bool.not_true, Bool.not_false, hgk, hu, hq5, hy, hw]); rfl))); (repeat (first | refine VC.seq ?_ | refine VC.block ?_ | refine VC.kill ?_ | refine VC.skip ?_ | refine VC.exit ?_ | refine VC.regA ?_ | refine VC.condT ?_ | refine VC.condF ?_)))
    refine ⟨_, k + 1, ?_, ⟨rfl, by omega⟩, ?_⟩
    · omega
    · (apply Go.Ab.V.G.weak; constructor <;> simp (config := {decide := true}) only [PT.Le, inV, mkB, PT.set, VSt.kill, VSt.adopt, VSt.alloc, PT.filt, PT.map, List.map_cons, List.map_nil, noref, norefB, deadB, deadV, nos, nm, nmL, nmB, nmE, Pa.eqb, cond_true, cond_false, Bool.not_true, Bool.not_false, Bool.and_true, Bool.true_and, nmL_vi, flV_len, flP_len, flV_nm, flV_ok, flV_pv, flP_map, drop_flP, drop_flV, putC_flV, eqV2, eqV3, bneT, bneF, decide_true, decide_false, frzL_vi, frzL_flV, nmE_ag, nmE_at, frzE_ag, frzE_at, ofAg_len, ofAt_len, atL_vi, nmL_map_p, frzL_map_p, okL_p, toPVs_p, repsZ, nmL_reps, putC_vi, get_flV0, get_flV1, Int.toNat_zero, Int.toNat_one, Int.reduceToNat, eqV_slice, eqV_ptr, eqV_func, nilS, nilP, nilF, nmL_append, true_or, or_true, and_self, true_and, and_true, Option.some.injEq, reduceCtorEq, false_or, or_false, VV.p.injEq, PV.at.injEq, Value.int.injEq, sl1, vi, bl1, vb, nilV, hnm, e1, sl1, slP, htk, List.map_append, hgk, hu, hq5, hy, hw])
      (all_goals first | rfl | omega | exact ⟨rfl, by omega⟩)
  · have h2 : k = (bitsN S).length := by omega
    have hz := hend h2
    subst hz
    have hm1 : IntKind.i64.wrap (5040 * x) = 5040 * x := wrapI (by omega) (by omega)
    have hm2 : ((ovL l (bitsN S)).length * 10000000000000 : Nat) ≤ 100000000000000 := by
      have : (ovL l (bitsN S)).length * 10000000000000 ≤ 10 * 10000000000000 := Nat.mul_le_mul_right _ (by omega)
      omega
    generalize ovL l (bitsN S) = V at *
    generalize sumL V = sv at *
    have hm3 : IntKind.i64.wrap (sv - 5040 * x) = sv - 5040 * x := wrapI (by omega) (by omega)
    rw [show sl1 V = .p (.sl 1 k (V.map pi)) from by unfold sl1; rw [htl]] at k2
    (repeat (first | refine VC.seq ?_ | refine VC.block ?_ | refine VC.kill ?_ | refine VC.skip ?_ | refine VC.exit ?_ | refine VC.regA ?_ | refine VC.condT ?_ | refine VC.condF ?_))
    refine VC.frzA p31 (hb := rfl) (hc := toPVs_vi V) ?_
    simp only [VSt.frz, PT.map, frzL, frzV, frzB, Option.map_some, Option.map_none, hfz, z1, PT.set, PT.filt, VSt.kill, Pa.eqb, cond_true, cond_false, Bool.and_true, Bool.and_false, Bool.false_and, Bool.true_and]
    (refine VC.regCA ?_; refine VO.moreA ?_; refine VO.call0A (no_orc _ (by decide)) k2 ?_)
    refine VO.moreA ?_
    refine VO.call [] [(p16, .cells FL), (p14, .map E1)] .lf rfl rfl (no_orc 68 (by decide)) kc trivial ?_ ?_ rfl rfl rfl rfl rfl rfl rfl ?_
    · simp [mkB, PT.set, PT.Le, VSt.kill]
    · simp [mkB, PT.set, PT.Le, VSt.kill]
    (simp only [filtN, filtNB, mkB, PT.set, VSt.put, PT.filt, noref, norefB, nos, nm, nmL, nmB, nmL_vi, nmL_map_p, nmE_ag, flV_nm, List.nil_append, List.append_nil, Pa.eqb, cond_true, cond_false, Bool.and_true, Bool.not_false, Bool.not_true])
    apply VO.uptoE
    · (simp (config := {decide := false, maxSteps := 1000000}) (disch := omega) only [vev_call, putC_c0, putC_n0, putC_cs, ble0, List.getElem?_cons_zero, List.getElem?_cons_succ, runU, isCall, wantV, vev, evV, ofVal, ofAtom, atomB, cond_true, cond_false, PT.get, PT.set, PT.filt, PT.map, Option.getD_some, Option.getD_none, ret1V, ret1X, v_ld, v_ias, v_iad, v_fad, v_slsl, v_slarr, v_st, v_app, v_cpy, v_clr, v_len, v_look, v_mset, elsV, partV, newV, free, atV, atI, atL, toVal, cellsV, okV, VSt.put, VSt.kill, VSt.alloc, VSt.frz, VSt.adopt, noref, norefB, deadB, deadV, nos, nm, nmL, nmB, nmE, Pa.eqb, Bool.not_false, Bool.not_true, Bool.and_true, Bool.true_and, Bool.false_and, Bool.and_false, bin, intOps, intBin, cvt, un, goInt, bndsV, bndV, Option.map_some, Option.map_none, List.map_cons, List.map_nil, Int.toNat_natCast, Nat.mul_one, Nat.zero_add, beq_true, beq_false, beq_self_eq_true, List.length_map, List.length_cons, List.length_nil, List.length_append, fillV, pEvV, repsV, List.append_nil, List.nil_append, if_pos, if_neg, reduceIte, List.getElem?_map, List.getElem?_drop, Nat.add_zero, List.getElem?_eq_getElem, Go.IntWalk.i64_in, wrap_u64, tmod_pos, eq_self, true_and, and_true, and_self, List.all_cons, List.all_nil, nmL_vi, flV_len, flP_len, flV_nm, flV_ok, flV_pv, flP_map, drop_flP, drop_flV, putC_flV, eqV2, eqV3, bneT, bneF, decide_true, decide_false, frzL_vi, frzL_flV, nmE_ag, nmE_at, frzE_ag, frzE_at, ofAg_len, ofAt_len, atL_vi, nmL_map_p, frzL_map_p, okL_p, toPVs_p, repsZ, nmL_reps, putC_vi, get_flV0, get_flV1, Int.toNat_zero, Int.toNat_one, Int.reduceToNat, eqV_slice, eqV_ptr, eqV_func, nilS, nilP, nilF, nmL_append, okL_vi, toPVs_vi, toPVs, toPV, frzV, frzL, frzB, resVV, vi, vb, nilV, sl1, bl1, pi, foldV, max2, min2, max_eq, min_eq, Int.tdiv_eq_ediv_of_nonneg, Int.cast_ofNat_Int, Option.isSome_none, Option.isSome_some, Option.isNone_none, Option.isNone_some, and_false, false_and, sl2, sl1P, slP, min_cast, take_map_pi, map_pi, Nat.sub_zero, Nat.zero_mul, List.length_take, decide_eq_true, decide_eq_false, Bool.true_eq_false, Bool.false_eq_true, beqT, beqF, ibeq, ibne, List.take_zero, List.take_succ_cons, List.drop_zero, List.drop_succ_cons, List.drop_nil, List.take_nil, List.cons_append, Bool.not_true, Bool.not_false, hm1, hm3])
      rfl
    (repeat (first | refine VC.seq ?_ | refine VC.block ?_ | refine VC.kill ?_ | refine VC.skip ?_ | refine VC.exit ?_ | refine VC.regA ?_ | refine VC.condT ?_ | refine VC.condF ?_))
    refine VC.ret (Fin.of rfl rfl ?_ rfl rfl ?_)
    · simp [mkB, PT.set, PT.Le, VSt.kill, vi]
    · simp [subs, nm, nmL, nmsB, nmB, e2, hnm, nos, Pa.eqb, vi, sl1]
end Go.Ab.Dues

namespace Go.Ab.Dues
open Go.Ab.V
set_option maxRecDepth 100000
theorem neg1_ok (a b : Int) : VCall cfg 64 [.agg [vi a, vi b]] [] [] (vb (decide (a < 0))) [] := by
  (refine VCall.mk (fn := a64) rfl rfl rfl ?_; simp only [a64, inV, mkB, nmsL, PT.set])
  (repeat (first | refine VC.seq ?_ | refine VC.block ?_ | refine VC.kill ?_ | refine VC.skip ?_ | refine VC.exit ?_ | refine VC.regA ?_ | refine VC.condT ?_ | refine VC.condF ?_))
  exact VC.ret (Fin.A rfl)
def fndP (P : Int × Int → Bool) (l : List (Int × Int)) : Int := if l.any P = true then (l.findIdx P : Nat) else -1
theorem fndP_hit {P : Int × Int → Bool} {l : List (Int × Int)} {i : Nat} (h : i < l.length) (hv : P l[i] = true) (hn : ∀ k (hk : k < i), P (l[k]'(by omega)) = false) : fndP P l = i := by
  unfold fndP
  rw [if_pos (List.any_eq_true.2 ⟨_, List.getElem_mem h, hv⟩)]
  congr 1
  rw [List.findIdx_eq h]
  exact ⟨hv, fun j hj => hn j hj⟩
theorem fndP_pos (P : Int × Int → Bool) (l : List (Int × Int)) : decide (fndP P l ≥ 0) = l.any P := by
  unfold fndP
  cases h : l.any P with
  | true => rw [if_pos rfl]; simp
  | false => rw [if_neg (by simp)]; rfl
set_option maxHeartbeats 4000000 in
theorem IndexFuncP_ok (l : List (Int × Int)) (P : Int × Int → Bool) (k : Nat) (hk : k ≠ 24) (hl : l.length ≤ 1000000) (hP : ∀ x ∈ l, VCall cfg k [.agg [vi x.1, vi x.2]] [] [] (vb (P x)) []) : VCall cfg 80 [slP l, .clos k [] []] [] [] (vi (fndP P l)) [] := by
  unfold slP
  (refine VCall.mk (fn := a80) rfl rfl rfl ?_; simp only [a80, inV, mkB, nmsL, PT.set])
  (repeat (first | refine VC.seq ?_ | refine VC.block ?_ | refine VC.kill ?_ | refine VC.skip ?_ | refine VC.exit ?_ | refine VC.regA ?_ | refine VC.condT ?_ | refine VC.condF ?_))
  refine VC.loopG (fun (i : Nat) => ⟨inV [p0, p1, p7, p8] [slP l, .clos k [] [], vi l.length, vi i] .lf, .lf, [], none⟩) (fun n i => n = l.length - i ∧ i ≤ l.length ∧ ∀ k (hk : k < i) (hk' : k < l.length), P l[k] = false) (x := 0) ?_ ⟨rfl, by omega, fun k hk => absurd hk (Nat.not_lt_zero k)⟩ ?_
  · (apply Go.Ab.V.G.weak; constructor <;> simp (config := {decide := true}) only [PT.Le, inV, mkB, PT.set, VSt.kill, VSt.adopt, VSt.alloc, PT.filt, PT.map, List.map_cons, List.map_nil, noref, norefB, deadB, deadV, nos, nm, nmL, nmB, nmE, Pa.eqb, cond_true, cond_false, Bool.not_true, Bool.not_false, Bool.and_true, Bool.true_and, nmL_vi, flV_len, flP_len, flV_nm, flV_ok, flV_pv, flP_map, drop_flP, drop_flV, putC_flV, eqV2, eqV3, bneT, bneF, decide_true, decide_false, frzL_vi, frzL_flV, nmE_ag, nmE_at, frzE_ag, frzE_at, ofAg_len, ofAt_len, atL_vi, nmL_map_p, frzL_map_p, okL_p, toPVs_p, repsZ, nmL_reps, putC_vi, get_flV0, get_flV1, Int.toNat_zero, Int.toNat_one, Int.reduceToNat, eqV_slice, eqV_ptr, eqV_func, nilS, nilP, nilF, nmL_append, true_or, or_true, and_self, true_and, and_true, Option.some.injEq, reduceCtorEq, false_or, or_false, VV.p.injEq, PV.at.injEq, Value.int.injEq, sl1, vi, bl1, vb, nilV, slP])
    (all_goals first | rfl | omega | exact ⟨rfl, by omega⟩)
  rintro n i ⟨hn, hi, ho⟩
  simp only [inV, PT.set, slP]
  (repeat (first | refine VC.seq ?_ | refine VC.block ?_ | refine VC.kill ?_ | refine VC.skip ?_ | refine VC.exit ?_ | refine VC.regA ?_ | refine VC.condT ?_ | refine VC.condF ?_))
  refine VC.condA ?_ ?_ <;> intro h <;> (simp only [decide_eq_true_eq, decide_eq_false_iff_not, bne_iff_ne, ne_eq, bne_eq_false_iff_eq, beq_iff_eq, beq_eq_false_iff_ne, Bool.not_eq_true', Bool.not_eq_false', Bool.and_eq_true, Bool.or_eq_true, Int.natCast_inj] at h)
  · have h : i < l.length := by omega
    have kx := hP _ (List.getElem_mem h)
    (repeat (first | refine VC.seq ?_ | refine VC.block ?_ | refine VC.kill ?_ | refine VC.skip ?_ | refine VC.exit ?_ | refine VC.regA ?_ | refine VC.condT ?_ | refine VC.condF ?_))
    refine VC.regCA ?_
    refine VO.moreA ?_
    refine VO.call0A (no_orc k hk) kx ?_
    refine VO.endA ?_
    (repeat (first | refine VC.seq ?_ | refine VC.block ?_ | refine VC.kill ?_ | refine VC.skip ?_ | refine VC.exit ?_ | refine VC.regA ?_ | refine VC.condT ?_ | refine VC.condF ?_))
    cases hp : P l[i] with
    | true =>
      (repeat (first | refine VC.seq ?_ | refine VC.block ?_ | refine VC.kill ?_ | refine VC.skip ?_ | refine VC.exit ?_ | refine VC.regA ?_ | refine VC.condT ?_ | refine VC.condF ?_))
      rw [fndP_hit h hp (fun k hk => ho k hk (by omega))]
      exact VC.ret (Fin.A rfl)
    | false =>
      (repeat (first | refine VC.seq ?_ | refine VC.block ?_ | refine VC.kill ?_ | refine VC.skip ?_ | refine VC.exit ?_ | refine VC.regA ?_ | refine VC.condT ?_ | refine VC.condF ?_))
      refine ⟨_, i + 1, ?_, ⟨rfl, by omega, fun k hk hk' => ?_⟩, ?_⟩
      · omega
      · rcases Nat.lt_or_ge k i with h1 | h1
        · exact ho k h1 hk'
        · have : k = i := by omega
          subst this; exact hp
      · (apply Go.Ab.V.G.weak; constructor <;> simp (config := {decide := true}) only [PT.Le, inV, mkB, PT.set, VSt.kill, VSt.adopt, VSt.alloc, PT.filt, PT.map, List.map_cons, List.map_nil, noref, norefB, deadB, deadV, nos, nm, nmL, nmB, nmE, Pa.eqb, cond_true, cond_false, Bool.not_true, Bool.not_false, Bool.and_true, Bool.true_and, nmL_vi, flV_len, flP_len, flV_nm, flV_ok, flV_pv, flP_map, drop_flP, drop_flV, putC_flV, eqV2, eqV3, bneT, bneF, decide_true, decide_false, frzL_vi, frzL_flV, nmE_ag, nmE_at, frzE_ag, frzE_at, ofAg_len, ofAt_len, atL_vi, nmL_map_p, frzL_map_p, okL_p, toPVs_p, repsZ, nmL_reps, putC_vi, get_flV0, get_flV1, Int.toNat_zero, Int.toNat_one, Int.reduceToNat, eqV_slice, eqV_ptr, eqV_func, nilS, nilP, nilF, nmL_append, true_or, or_true, and_self, true_and, and_true, Option.some.injEq, reduceCtorEq, false_or, or_false, VV.p.injEq, PV.at.injEq, Value.int.injEq, sl1, vi, bl1, vb, nilV, slP])
        (all_goals first | rfl | omega | exact ⟨rfl, by omega⟩)
  · have h : i = l.length := by omega
    have : fndP P l = -1 := by
      unfold fndP
      rw [if_neg]
      intro hm
      obtain ⟨x, hx, hp⟩ := List.any_eq_true.1 hm
      obtain ⟨k, hk, e⟩ := List.mem_iff_getElem.1 hx
      have := ho k (by omega) hk
      rw [e, hp] at this; cases this
    rw [this]
    (repeat (first | refine VC.seq ?_ | refine VC.block ?_ | refine VC.kill ?_ | refine VC.skip ?_ | refine VC.exit ?_ | refine VC.regA ?_ | refine VC.condT ?_ | refine VC.condF ?_))
    exact VC.ret (Fin.A rfl)
theorem low_ok (l : List (Int × Int)) (hl : l.length ≤ 1000000) : VCall cfg 63 [slP l, .clos 64 [] []] [] [] (vb (l.any fun q => decide (q.1 < 0))) [] := by
  have k1 := IndexFuncP_ok l (fun q => decide (q.1 < 0)) 64 (by decide) hl (fun x _ => neg1_ok _ _)
  rw [← fndP_pos]
  (refine VCall.mk (fn := a63) rfl rfl rfl ?_; simp only [a63, inV, mkB, nmsL, PT.set])
  (repeat (first | refine VC.seq ?_ | refine VC.block ?_ | refine VC.kill ?_ | refine VC.skip ?_ | refine VC.exit ?_ | refine VC.regA ?_ | refine VC.condT ?_ | refine VC.condF ?_))
  (refine VC.regCA ?_; refine VO.moreA ?_; refine VO.call0A (no_orc _ (by decide)) k1 ?_; refine VO.endA ?_; (repeat (first | refine VC.seq ?_ | refine VC.block ?_ | refine VC.kill ?_ | refine VC.skip ?_ | refine VC.exit ?_ | refine VC.regA ?_ | refine VC.condT ?_ | refine VC.condF ?_)))
  exact VC.ret (Fin.A rfl)
/-- The least set that pays more than its cost. -/
def wW (c : Can) (l : List (Int × Int)) : Nat := ((List.range (2 ^ c.ships.length)).find? fun S => decide (0 < overS c l S)).getD 0
theorem over0 (c : Can) (l : List (Int × Int)) : overS c l 0 = 0 := by
  have h : bitsN 0 = [] := by decide
  unfold overS ovL costS costP
  rw [h]
  have : pieces (needK c c.ships.length) 0 = 0 := by simp [pieces, h]
  rw [this, h]
  rfl
theorem find_range {p : Nat → Bool} : ∀ (n k : Nat), k < n → p k = true → (∀ j < k, p j = false) → (List.range n).find? p = some k := by
  intro n k hk hp hj
  rw [List.find?_range_eq_some]
  exact ⟨hp, List.mem_range.2 hk, fun j h => by rw [hj j h]; rfl⟩
theorem wW_hit {c : Can} {l : List (Int × Int)} {k : Nat} (hk : k < 2 ^ c.ships.length) (h : 0 < overS c l k) (hn : ∀ j < k, overS c l j ≤ 0) : wW c l = k := by
  unfold wW
  rw [find_range (p := fun S => decide (0 < overS c l S)) _ k hk (decide_eq_true h) (fun j hj => decide_eq_false (by have := hn j hj; omega))]; rfl
theorem wW_none {c : Can} {l : List (Int × Int)} (hn : ∀ j < 2 ^ c.ships.length, overS c l j ≤ 0) : wW c l = 0 := by
  unfold wW
  rw [List.find?_eq_none.2 (fun j hj => by have := hn j (List.mem_range.1 hj); simp; omega)]; rfl
/-- What is said of shares. -/
def fairV (c : Can) (l : List (Int × Int)) : VV := if okSh c l then (if wW c l ≠ 0 then .tup [vi (wW c l), vb false, vi 0] else .tup [vi 0, vb (!(l.any fun q => decide (q.1 < 0)) && decide (overS c l (2 ^ c.ships.length - 1) = 0)), vi 0]) else .tup [vi 0, vb false, vi 1]
set_option maxHeartbeats 16000000 in
theorem IsFair_ok (c : Can) (h : okC c) (l : List (Int × Int)) (hl : l.length ≤ 1000) : VCall cfg 25 [canV c, slP l] [] [] (fairV c l) [] := by
  have h7 := h.s7
  have k1 := open_ok c h
  have ko := fun M hM hl S hS => over_ok c h M hM l hl S hS
  have ka := all_ok c h7 (needK c c.ships.length)
  have hnm := fl_nm c (needK c c.ships.length) p14
  generalize flC c (needK c c.ships.length) p14 = FL at *
  have hp7 : 2 ^ c.ships.length ≤ 128 := (show 2 ^ c.ships.length ≤ 2 ^ 7 from Nat.pow_le_pow_right (by decide) h7)
  have hp0 : 0 < 2 ^ c.ships.length := Nat.pow_pos (by decide)
  unfold canV at *
  have hslP : slP l = .p (.sl 2 l.length (flP l)) := rfl
  have klow := low_ok l (by omega)
  rw [hslP] at klow
  simp only [hslP] at ko ⊢
  have he : esM [] = [] := rfl
  (refine VCall.mk (fn := a25) rfl rfl rfl ?_; simp only [a25, inV, mkB, nmsL, PT.set])
  (repeat (first | refine VC.seq ?_ | refine VC.block ?_ | refine VC.kill ?_ | refine VC.skip ?_ | refine VC.exit ?_ | refine VC.regA ?_ | refine VC.condT ?_ | refine VC.condF ?_))
  refine VC.regCA ?_
  refine VO.moreA ?_
  refine VO.callN (no_orc 52 (by decide)) k1 rfl rfl rfl rfl rfl rfl ?_
  (simp only [filtN, filtNB, mkB, PT.set, VSt.put, PT.filt, noref, norefB, nos, nm, nmL, nmB, nmL_vi, nmL_map_p, nmE_ag, flV_nm, List.nil_append, List.append_nil, Pa.eqb, cond_true, cond_false, Bool.and_true, Bool.not_false, Bool.not_true])
  refine VO.endA ?_
  (repeat (first | refine VC.seq ?_ | refine VC.block ?_ | refine VC.kill ?_ | refine VC.skip ?_ | refine VC.exit ?_ | refine VC.regA ?_ | refine VC.condT ?_ | refine VC.condF ?_))
  refine VC.condA ?_ ?_ <;> intro hlen <;> (simp only [decide_eq_true_eq, decide_eq_false_iff_not, bne_iff_ne, ne_eq, bne_eq_false_iff_eq, beq_iff_eq, beq_eq_false_iff_ne, Bool.not_eq_true', Bool.not_eq_false', Bool.and_eq_true, Bool.or_eq_true, Int.natCast_inj] at hlen)
  · have hr : fairV c l = .tup [vi 0, vb false, vi 1] := by
      unfold fairV; rw [if_neg]; intro hs; exact hlen (by rw [hs.1])
    rw [hr]
    (repeat (first | refine VC.seq ?_ | refine VC.block ?_ | refine VC.kill ?_ | refine VC.skip ?_ | refine VC.exit ?_ | refine VC.regA ?_ | refine VC.condT ?_ | refine VC.condF ?_))
    exact VC.ret (Fin.A rfl)
  have hlen : l.length = c.ships.length := by omega
  (repeat (first | refine VC.seq ?_ | refine VC.block ?_ | refine VC.kill ?_ | refine VC.skip ?_ | refine VC.exit ?_ | refine VC.regA ?_ | refine VC.condT ?_ | refine VC.condF ?_))
  refine VC.loopG (fun (i : Nat) => ⟨inV [p1, p7, p28, p29, p30] [slP l, .op 0 p16 0, slP l, vi l.length, vi i] .lf, mkB [(p16, .cells FL), (p14, .map [])] .lf, [], none⟩) (fun n i => n = l.length - i ∧ i ≤ l.length ∧ ∀ j (hj : j < i) (hj' : j < l.length), okQ l[j]) (x := 0) ?_ ⟨rfl, Nat.zero_le _, fun j hj => absurd hj (Nat.not_lt_zero j)⟩ ?_
  · (apply Go.Ab.V.G.weak; constructor <;> simp (config := {decide := true}) only [PT.Le, inV, mkB, PT.set, VSt.kill, VSt.adopt, VSt.alloc, PT.filt, PT.map, List.map_cons, List.map_nil, noref, norefB, deadB, deadV, nos, nm, nmL, nmB, nmE, Pa.eqb, cond_true, cond_false, Bool.not_true, Bool.not_false, Bool.and_true, Bool.true_and, nmL_vi, flV_len, flP_len, flV_nm, flV_ok, flV_pv, flP_map, drop_flP, drop_flV, putC_flV, eqV2, eqV3, bneT, bneF, decide_true, decide_false, frzL_vi, frzL_flV, nmE_ag, nmE_at, frzE_ag, frzE_at, ofAg_len, ofAt_len, atL_vi, nmL_map_p, frzL_map_p, okL_p, toPVs_p, repsZ, nmL_reps, putC_vi, get_flV0, get_flV1, Int.toNat_zero, Int.toNat_one, Int.reduceToNat, eqV_slice, eqV_ptr, eqV_func, nilS, nilP, nilF, nmL_append, true_or, or_true, and_self, true_and, and_true, Option.some.injEq, reduceCtorEq, false_or, or_false, VV.p.injEq, PV.at.injEq, Value.int.injEq, sl1, vi, bl1, vb, nilV, slP, hnm])
    (all_goals first | rfl | omega | exact ⟨rfl, by omega⟩)
  rintro n i ⟨hn, hi, ho⟩
  simp only [inV, PT.set, mkB, slP]
  (repeat (first | refine VC.seq ?_ | refine VC.block ?_ | refine VC.kill ?_ | refine VC.skip ?_ | refine VC.exit ?_ | refine VC.regA ?_ | refine VC.condT ?_ | refine VC.condF ?_))
  refine VC.condA ?_ ?_ <;> intro h' <;> (simp only [decide_eq_true_eq, decide_eq_false_iff_not, bne_iff_ne, ne_eq, bne_eq_false_iff_eq, beq_iff_eq, beq_eq_false_iff_ne, Bool.not_eq_true', Bool.not_eq_false', Bool.and_eq_true, Bool.or_eq_true, Int.natCast_inj] at h')
  · have h' : i < l.length := by omega
    have hbad : ¬okQ l[i] → fairV c l = .tup [vi 0, vb false, vi 1] := fun hq => by
      unfold fairV; rw [if_neg]; intro hs; exact hq (hs.2 _ (List.getElem_mem h'))
    have hgo : okQ l[i] → ∀ j (hj : j < i + 1) (hj' : j < l.length), okQ l[j] := fun hq j hj hj' => by
      rcases Nat.lt_or_ge j i with h1 | h1
      · exact ho j h1 hj'
      · have : j = i := by omega
        subst this; exact hq
    (repeat (first | refine VC.seq ?_ | refine VC.block ?_ | refine VC.kill ?_ | refine VC.skip ?_ | refine VC.exit ?_ | refine VC.regA ?_ | refine VC.condT ?_ | refine VC.condF ?_))
    by_cases q1 : l[i].1 < -1000000000
    · rw [hbad (fun hq => by have := hq.1.1; omega)]
      (repeat (first | refine VC.seq ?_ | refine VC.block ?_ | refine VC.kill ?_ | refine VC.skip ?_ | refine VC.exit ?_ | refine VC.regA ?_ | refine VC.condT ?_ | refine VC.condF ?_))
      exact VC.ret (Fin.A rfl)
    by_cases q2 : 1000000000 < l[i].1
    · rw [hbad (fun hq => by have := hq.1.2; omega)]
      (repeat (first | refine VC.seq ?_ | refine VC.block ?_ | refine VC.kill ?_ | refine VC.skip ?_ | refine VC.exit ?_ | refine VC.regA ?_ | refine VC.condT ?_ | refine VC.condF ?_))
      exact VC.ret (Fin.A rfl)
    by_cases q3 : l[i].2 < 1
    · rw [hbad (fun hq => by have := hq.2.1; omega)]
      (repeat (first | refine VC.seq ?_ | refine VC.block ?_ | refine VC.kill ?_ | refine VC.skip ?_ | refine VC.exit ?_ | refine VC.regA ?_ | refine VC.condT ?_ | refine VC.condF ?_))
      exact VC.ret (Fin.A rfl)
    have q30 : ¬l[i].2 = 0 := by omega
    by_cases q4 : 5040 % l[i].2 = 0
    rotate_left
    · rw [hbad (fun hq => q4 hq.2.2.1)]
      (repeat (first | refine VC.seq ?_ | refine VC.block ?_ | refine VC.kill ?_ | refine VC.skip ?_ | refine VC.exit ?_ | refine VC.regA ?_ | refine VC.condT ?_ | refine VC.condF ?_))
      ((try (apply VC.regU; · ((simp (config := {decide := false, maxSteps := 1000000}) (disch := omega) only [vev_call, putC_c0, putC_n0, putC_cs, ble0, List.getElem?_cons_zero, List.getElem?_cons_succ, runU, isCall, wantV, vev, evV, ofVal, ofAtom, atomB, cond_true, cond_false, PT.get, PT.set, PT.filt, PT.map, Option.getD_some, Option.getD_none, ret1V, ret1X, v_ld, v_ias, v_iad, v_fad, v_slsl, v_slarr, v_st, v_app, v_cpy, v_clr, v_len, v_look, v_mset, elsV, partV, newV, free, atV, atI, atL, toVal, cellsV, okV, VSt.put, VSt.kill, VSt.alloc, VSt.frz, VSt.adopt, noref, norefB, deadB, deadV, nos, nm, nmL, nmB, nmE, Pa.eqb, Bool.not_false, Bool.not_true, Bool.and_true, Bool.true_and, Bool.false_and, Bool.and_false, bin, intOps, intBin, cvt, un, goInt, bndsV, bndV, Option.map_some, Option.map_none, List.map_cons, List.map_nil, Int.toNat_natCast, Nat.mul_one, Nat.zero_add, beq_true, beq_false, beq_self_eq_true, List.length_map, List.length_cons, List.length_nil, List.length_append, fillV, pEvV, repsV, List.append_nil, List.nil_append, if_pos, if_neg, reduceIte, List.getElem?_map, List.getElem?_drop, Nat.add_zero, List.getElem?_eq_getElem, Go.IntWalk.i64_in, wrap_u64, tmod_pos, eq_self, true_and, and_true, and_self, List.all_cons, List.all_nil, nmL_vi, flV_len, flP_len, flV_nm, flV_ok, flV_pv, flP_map, drop_flP, drop_flV, putC_flV, eqV2, eqV3, bneT, bneF, decide_true, decide_false, frzL_vi, frzL_flV, nmE_ag, nmE_at, frzE_ag, frzE_at, ofAg_len, ofAt_len, atL_vi, nmL_map_p, frzL_map_p, okL_p, toPVs_p, repsZ, nmL_reps, putC_vi, get_flV0, get_flV1, Int.toNat_zero, Int.toNat_one, Int.reduceToNat, eqV_slice, eqV_ptr, eqV_func, nilS, nilP, nilF, nmL_append, okL_vi, toPVs_vi, toPVs, toPV, frzV, frzL, frzB, resVV, vi, vb, nilV, sl1, bl1, pi, foldV, max2, min2, max_eq, min_eq, Int.tdiv_eq_ediv_of_nonneg, Int.cast_ofNat_Int, Option.isSome_none, Option.isSome_some, Option.isNone_none, Option.isNone_some, and_false, false_and, sl2, sl1P, slP, min_cast, take_map_pi, map_pi, Nat.sub_zero, Nat.zero_mul, List.length_take, decide_eq_true, decide_eq_false, Bool.true_eq_false, Bool.false_eq_true, beqT, beqF, ibeq, ibne, List.take_zero, List.take_succ_cons, List.drop_zero, List.drop_succ_cons, List.drop_nil, List.take_nil, List.cons_append, Bool.not_true, Bool.not_false, q4]); rfl))); (repeat (first | refine VC.seq ?_ | refine VC.block ?_ | refine VC.kill ?_ | refine VC.skip ?_ | refine VC.exit ?_ | refine VC.regA ?_ | refine VC.condT ?_ | refine VC.condF ?_)))
      exact VC.ret (Fin.A rfl)
    have q6 : l[i].2 ≤ 5040 := Int.le_of_dvd (by decide) (Int.dvd_of_emod_eq_zero q4)
    have kg := gcdP_ok l[i].1 l[i].2 (by omega) (by omega)
    by_cases q5 : Int.gcd l[i].1 l[i].2 = 1
    · have hq : okQ l[i] := ⟨⟨by omega, by omega⟩, by omega, q4, q5⟩
      rw [q5] at kg
      have hgo := hgo hq
      clear hbad ho
      apply VC.regC
      · (simp (config := {decide := false, maxSteps := 1000000}) (disch := omega) only [vev_call, putC_c0, putC_n0, putC_cs, ble0, List.getElem?_cons_zero, List.getElem?_cons_succ, runU, isCall, wantV, vev, evV, ofVal, ofAtom, atomB, cond_true, cond_false, PT.get, PT.set, PT.filt, PT.map, Option.getD_some, Option.getD_none, ret1V, ret1X, v_ld, v_ias, v_iad, v_fad, v_slsl, v_slarr, v_st, v_app, v_cpy, v_clr, v_len, v_look, v_mset, elsV, partV, newV, free, atV, atI, atL, toVal, cellsV, okV, VSt.put, VSt.kill, VSt.alloc, VSt.frz, VSt.adopt, noref, norefB, deadB, deadV, nos, nm, nmL, nmB, nmE, Pa.eqb, Bool.not_false, Bool.not_true, Bool.and_true, Bool.true_and, Bool.false_and, Bool.and_false, bin, intOps, intBin, cvt, un, goInt, bndsV, bndV, Option.map_some, Option.map_none, List.map_cons, List.map_nil, Int.toNat_natCast, Nat.mul_one, Nat.zero_add, beq_true, beq_false, beq_self_eq_true, List.length_map, List.length_cons, List.length_nil, List.length_append, fillV, pEvV, repsV, List.append_nil, List.nil_append, if_pos, if_neg, reduceIte, List.getElem?_map, List.getElem?_drop, Nat.add_zero, List.getElem?_eq_getElem, Go.IntWalk.i64_in, wrap_u64, tmod_pos, eq_self, true_and, and_true, and_self, List.all_cons, List.all_nil, nmL_vi, flV_len, flP_len, flV_nm, flV_ok, flV_pv, flP_map, drop_flP, drop_flV, putC_flV, eqV2, eqV3, bneT, bneF, decide_true, decide_false, frzL_vi, frzL_flV, nmE_ag, nmE_at, frzE_ag, frzE_at, ofAg_len, ofAt_len, atL_vi, nmL_map_p, frzL_map_p, okL_p, toPVs_p, repsZ, nmL_reps, putC_vi, get_flV0, get_flV1, Int.toNat_zero, Int.toNat_one, Int.reduceToNat, eqV_slice, eqV_ptr, eqV_func, nilS, nilP, nilF, nmL_append, okL_vi, toPVs_vi, toPVs, toPV, frzV, frzL, frzB, resVV, vi, vb, nilV, sl1, bl1, pi, foldV, max2, min2, max_eq, min_eq, Int.tdiv_eq_ediv_of_nonneg, Int.cast_ofNat_Int, Option.isSome_none, Option.isSome_some, Option.isNone_none, Option.isNone_some, and_false, false_and, sl2, sl1P, slP, min_cast, take_map_pi, map_pi, Nat.sub_zero, Nat.zero_mul, List.length_take, decide_eq_true, decide_eq_false, Bool.true_eq_false, Bool.false_eq_true, beqT, beqF, ibeq, ibne, List.take_zero, List.take_succ_cons, List.drop_zero, List.drop_succ_cons, List.drop_nil, List.take_nil, List.cons_append, Bool.not_true, Bool.not_false, q4])
        rfl
      refine VO.call0A (no_orc 61 (by decide)) kg ?_
      refine VO.endA ?_
      (repeat (first | refine VC.seq ?_ | refine VC.block ?_ | refine VC.kill ?_ | refine VC.skip ?_ | refine VC.exit ?_ | refine VC.regA ?_ | refine VC.condT ?_ | refine VC.condF ?_))
      refine ⟨_, i + 1, ?_, ⟨rfl, by omega, hgo⟩, ?_⟩
      · omega
      · (apply Go.Ab.V.G.weak; constructor <;> simp (config := {decide := true}) only [PT.Le, inV, mkB, PT.set, VSt.kill, VSt.adopt, VSt.alloc, PT.filt, PT.map, List.map_cons, List.map_nil, noref, norefB, deadB, deadV, nos, nm, nmL, nmB, nmE, Pa.eqb, cond_true, cond_false, Bool.not_true, Bool.not_false, Bool.and_true, Bool.true_and, nmL_vi, flV_len, flP_len, flV_nm, flV_ok, flV_pv, flP_map, drop_flP, drop_flV, putC_flV, eqV2, eqV3, bneT, bneF, decide_true, decide_false, frzL_vi, frzL_flV, nmE_ag, nmE_at, frzE_ag, frzE_at, ofAg_len, ofAt_len, atL_vi, nmL_map_p, frzL_map_p, okL_p, toPVs_p, repsZ, nmL_reps, putC_vi, get_flV0, get_flV1, Int.toNat_zero, Int.toNat_one, Int.reduceToNat, eqV_slice, eqV_ptr, eqV_func, nilS, nilP, nilF, nmL_append, true_or, or_true, and_self, true_and, and_true, Option.some.injEq, reduceCtorEq, false_or, or_false, VV.p.injEq, PV.at.injEq, Value.int.injEq, sl1, vi, bl1, vb, nilV, slP, hnm])
        (all_goals first | rfl | omega | exact ⟨rfl, by omega⟩)
    · rw [hbad (fun hq => q5 hq.2.2.2)]
      have hg : ¬((Int.gcd l[i].1 l[i].2 : Nat) : Int) = 1 := by omega
      generalize ((Int.gcd l[i].1 l[i].2 : Nat) : Int) = g at *
      clear hbad hgo ho
      apply VC.regC
      · (simp (config := {decide := false, maxSteps := 1000000}) (disch := omega) only [vev_call, putC_c0, putC_n0, putC_cs, ble0, List.getElem?_cons_zero, List.getElem?_cons_succ, runU, isCall, wantV, vev, evV, ofVal, ofAtom, atomB, cond_true, cond_false, PT.get, PT.set, PT.filt, PT.map, Option.getD_some, Option.getD_none, ret1V, ret1X, v_ld, v_ias, v_iad, v_fad, v_slsl, v_slarr, v_st, v_app, v_cpy, v_clr, v_len, v_look, v_mset, elsV, partV, newV, free, atV, atI, atL, toVal, cellsV, okV, VSt.put, VSt.kill, VSt.alloc, VSt.frz, VSt.adopt, noref, norefB, deadB, deadV, nos, nm, nmL, nmB, nmE, Pa.eqb, Bool.not_false, Bool.not_true, Bool.and_true, Bool.true_and, Bool.false_and, Bool.and_false, bin, intOps, intBin, cvt, un, goInt, bndsV, bndV, Option.map_some, Option.map_none, List.map_cons, List.map_nil, Int.toNat_natCast, Nat.mul_one, Nat.zero_add, beq_true, beq_false, beq_self_eq_true, List.length_map, List.length_cons, List.length_nil, List.length_append, fillV, pEvV, repsV, List.append_nil, List.nil_append, if_pos, if_neg, reduceIte, List.getElem?_map, List.getElem?_drop, Nat.add_zero, List.getElem?_eq_getElem, Go.IntWalk.i64_in, wrap_u64, tmod_pos, eq_self, true_and, and_true, and_self, List.all_cons, List.all_nil, nmL_vi, flV_len, flP_len, flV_nm, flV_ok, flV_pv, flP_map, drop_flP, drop_flV, putC_flV, eqV2, eqV3, bneT, bneF, decide_true, decide_false, frzL_vi, frzL_flV, nmE_ag, nmE_at, frzE_ag, frzE_at, ofAg_len, ofAt_len, atL_vi, nmL_map_p, frzL_map_p, okL_p, toPVs_p, repsZ, nmL_reps, putC_vi, get_flV0, get_flV1, Int.toNat_zero, Int.toNat_one, Int.reduceToNat, eqV_slice, eqV_ptr, eqV_func, nilS, nilP, nilF, nmL_append, okL_vi, toPVs_vi, toPVs, toPV, frzV, frzL, frzB, resVV, vi, vb, nilV, sl1, bl1, pi, foldV, max2, min2, max_eq, min_eq, Int.tdiv_eq_ediv_of_nonneg, Int.cast_ofNat_Int, Option.isSome_none, Option.isSome_some, Option.isNone_none, Option.isNone_some, and_false, false_and, sl2, sl1P, slP, min_cast, take_map_pi, map_pi, Nat.sub_zero, Nat.zero_mul, List.length_take, decide_eq_true, decide_eq_false, Bool.true_eq_false, Bool.false_eq_true, beqT, beqF, ibeq, ibne, List.take_zero, List.take_succ_cons, List.drop_zero, List.drop_succ_cons, List.drop_nil, List.take_nil, List.cons_append, Bool.not_true, Bool.not_false, q4])
        rfl
      refine VO.call0A (no_orc 61 (by decide)) kg ?_
      refine VO.endA ?_
      (repeat (first | refine VC.seq ?_ | refine VC.block ?_ | refine VC.kill ?_ | refine VC.skip ?_ | refine VC.exit ?_ | refine VC.regA ?_ | refine VC.condT ?_ | refine VC.condF ?_))
      exact VC.ret (Fin.A rfl)
  have hi : i = l.length := by omega
  have hsh : okSh c l := ⟨hlen, fun q hq => by
    obtain ⟨j, hj, rfl⟩ := List.mem_iff_getElem.1 hq
    exact ho j (by omega) hj⟩
  subst hi
  clear ho
  have ka0 := ka []
  rw [he] at ka0
  have hW : ((2 ^ c.ships.length - 1 : Nat) : Int) + 1 = ((2 ^ c.ships.length : Nat) : Int) := by omega
  have hhit := fun k (hk : k < 2 ^ c.ships.length) h1 h2 => wW_hit (c := c) (l := l) hk h1 h2
  have hnone := wW_none (c := c) (l := l)
  have h00 := over0 c l
  have hfv : fairV c l = if wW c l ≠ 0 then .tup [vi (wW c l), vb false, vi 0] else .tup [vi 0, vb (!(l.any fun q => decide (q.1 < 0)) && decide (overS c l (2 ^ c.ships.length - 1) = 0)), vi 0] := by unfold fairV; rw [if_pos hsh]
  have ko := fun M hM S hS => ko M hM hsh S hS
  have kend := fun M hM => ko M hM (2 ^ c.ships.length - 1) (by omega)
  generalize hAA : 2 ^ c.ships.length - 1 = A at *
  generalize hWW : 2 ^ c.ships.length = W at *
  (repeat (first | refine VC.seq ?_ | refine VC.block ?_ | refine VC.kill ?_ | refine VC.skip ?_ | refine VC.exit ?_ | refine VC.regA ?_ | refine VC.condT ?_ | refine VC.condF ?_))
  refine VC.regCA ?_
  refine VO.moreA ?_
  refine VO.call [] [(p16, .cells FL), (p14, .map [])] .lf rfl rfl (no_orc 57 (by decide)) ka0 trivial ?_ ?_ rfl rfl rfl rfl rfl rfl rfl ?_
  · simp [mkB, PT.set, PT.Le, VSt.kill]
  · simp [mkB, PT.set, PT.Le, VSt.kill]
  (simp only [filtN, filtNB, mkB, PT.set, VSt.put, PT.filt, noref, norefB, nos, nm, nmL, nmB, nmL_vi, nmL_map_p, nmE_ag, flV_nm, List.nil_append, List.append_nil, Pa.eqb, cond_true, cond_false, Bool.and_true, Bool.not_false, Bool.not_true])
  refine VO.endA ?_
  (repeat (first | refine VC.seq ?_ | refine VC.block ?_ | refine VC.kill ?_ | refine VC.skip ?_ | refine VC.exit ?_ | refine VC.regA ?_ | refine VC.condT ?_ | refine VC.condF ?_))
  rw [hW]
  refine VC.loopG (fun (q : Nat × List (Nat × Int)) => ⟨inV [p1, p7, p11, p64, p65] [slP l, .op 0 p16 0, vi 0, vi (W : Nat), vi q.1] .lf, mkB [(p16, .cells FL), (p14, .map (esM q.2))] .lf, [], none⟩) (fun n q => n = W - q.1 ∧ q.1 ≤ W ∧ okM c q.2 ∧ ∀ j < q.1, overS c l j ≤ 0) (x := (0, [])) ?_ ⟨rfl, Nat.zero_le _, (show okM c [] from fun q hq => by cases hq), fun j hj => absurd hj (Nat.not_lt_zero j)⟩ ?_
  · (apply Go.Ab.V.G.weak; constructor <;> simp (config := {decide := true}) only [PT.Le, inV, mkB, PT.set, VSt.kill, VSt.adopt, VSt.alloc, PT.filt, PT.map, List.map_cons, List.map_nil, noref, norefB, deadB, deadV, nos, nm, nmL, nmB, nmE, Pa.eqb, cond_true, cond_false, Bool.not_true, Bool.not_false, Bool.and_true, Bool.true_and, nmL_vi, flV_len, flP_len, flV_nm, flV_ok, flV_pv, flP_map, drop_flP, drop_flV, putC_flV, eqV2, eqV3, bneT, bneF, decide_true, decide_false, frzL_vi, frzL_flV, nmE_ag, nmE_at, frzE_ag, frzE_at, ofAg_len, ofAt_len, atL_vi, nmL_map_p, frzL_map_p, okL_p, toPVs_p, repsZ, nmL_reps, putC_vi, get_flV0, get_flV1, Int.toNat_zero, Int.toNat_one, Int.reduceToNat, eqV_slice, eqV_ptr, eqV_func, nilS, nilP, nilF, nmL_append, true_or, or_true, and_self, true_and, and_true, Option.some.injEq, reduceCtorEq, false_or, or_false, VV.p.injEq, PV.at.injEq, Value.int.injEq, sl1, vi, bl1, vb, nilV, slP, hnm, he])
    (all_goals first | rfl | omega | exact ⟨rfl, by omega⟩)
  rintro n ⟨k, M⟩ ⟨hn, hk, hM, hj⟩
  simp only at hn hk hM hj
  simp only [inV, PT.set, mkB, slP]
  have z0 := es_nm M
  (repeat (first | refine VC.seq ?_ | refine VC.block ?_ | refine VC.kill ?_ | refine VC.skip ?_ | refine VC.exit ?_ | refine VC.regA ?_ | refine VC.condT ?_ | refine VC.condF ?_))
  refine VC.condA ?_ ?_ <;> intro h' <;> (simp only [decide_eq_true_eq, decide_eq_false_iff_not, bne_iff_ne, ne_eq, bne_eq_false_iff_eq, beq_iff_eq, beq_eq_false_iff_ne, Bool.not_eq_true', Bool.not_eq_false', Bool.and_eq_true, Bool.or_eq_true, Int.natCast_inj] at h')
  · have h' : k < W := by omega
    have k3 := ko M hM k h'
    have hM2 := okM_memo hM k
    have z1 := es_nm (memo c M k)
    have hhit := hhit k h'
    have hk0 : k = 0 → overS c l k = 0 := fun e => by rw [e]; exact h00
    have hgo : overS c l k ≤ 0 → ∀ j < k + 1, overS c l j ≤ 0 := fun hx j hj' => by
      rcases Nat.lt_or_ge j k with h1 | h1
      · exact hj j h1
      · have : j = k := by omega
        subst this; exact hx
    have hhit := fun hx => hhit hx hj
    clear ko kend ka hj
    generalize esM M = E0 at *
    generalize hx : overS c l k = x at *
    (repeat (first | refine VC.seq ?_ | refine VC.block ?_ | refine VC.kill ?_ | refine VC.skip ?_ | refine VC.exit ?_ | refine VC.regA ?_ | refine VC.condT ?_ | refine VC.condF ?_))
    refine VC.regCA ?_
    refine VO.moreA ?_
    refine VO.call [] [(p16, .cells FL), (p14, .map E0)] .lf rfl rfl (no_orc 62 (by decide)) k3 trivial ?_ ?_ rfl rfl rfl rfl rfl rfl rfl ?_
    · simp [mkB, PT.set, PT.Le, VSt.kill]
    · simp [mkB, PT.set, PT.Le, VSt.kill]
    (simp only [filtN, filtNB, mkB, PT.set, VSt.put, PT.filt, noref, norefB, nos, nm, nmL, nmB, nmL_vi, nmL_map_p, nmE_ag, flV_nm, List.nil_append, List.append_nil, Pa.eqb, cond_true, cond_false, Bool.and_true, Bool.not_false, Bool.not_true])
    refine VO.endA ?_
    (repeat (first | refine VC.seq ?_ | refine VC.block ?_ | refine VC.kill ?_ | refine VC.skip ?_ | refine VC.exit ?_ | refine VC.regA ?_ | refine VC.condT ?_ | refine VC.condF ?_))
    refine VC.condA ?_ ?_ <;> intro h2 <;> (simp only [decide_eq_true_eq, decide_eq_false_iff_not, bne_iff_ne, ne_eq, bne_eq_false_iff_eq, beq_iff_eq, beq_eq_false_iff_ne, Bool.not_eq_true', Bool.not_eq_false', Bool.and_eq_true, Bool.or_eq_true, Int.natCast_inj] at h2)
    · have hw := hhit (by omega)
      have hk1 : ¬k = 0 := fun e => by have := hk0 e; omega
      rw [hw, if_pos hk1] at hfv
      rw [hfv]
      clear hhit hk0 hgo hnone
      (repeat (first | refine VC.seq ?_ | refine VC.block ?_ | refine VC.kill ?_ | refine VC.skip ?_ | refine VC.exit ?_ | refine VC.regA ?_ | refine VC.condT ?_ | refine VC.condF ?_))
      exact VC.ret (Fin.A rfl)
    · clear hhit hk0 hnone
      have hgo := hgo (by omega)
      (repeat (first | refine VC.seq ?_ | refine VC.block ?_ | refine VC.kill ?_ | refine VC.skip ?_ | refine VC.exit ?_ | refine VC.regA ?_ | refine VC.condT ?_ | refine VC.condF ?_))
      refine ⟨_, (k + 1, memo c M k), ?_, ⟨rfl, by simp only; omega, hM2, hgo⟩, ?_⟩
      · simp only; omega
      · (apply Go.Ab.V.G.weak; constructor <;> simp (config := {decide := true}) only [PT.Le, inV, mkB, PT.set, VSt.kill, VSt.adopt, VSt.alloc, PT.filt, PT.map, List.map_cons, List.map_nil, noref, norefB, deadB, deadV, nos, nm, nmL, nmB, nmE, Pa.eqb, cond_true, cond_false, Bool.not_true, Bool.not_false, Bool.and_true, Bool.true_and, nmL_vi, flV_len, flP_len, flV_nm, flV_ok, flV_pv, flP_map, drop_flP, drop_flV, putC_flV, eqV2, eqV3, bneT, bneF, decide_true, decide_false, frzL_vi, frzL_flV, nmE_ag, nmE_at, frzE_ag, frzE_at, ofAg_len, ofAt_len, atL_vi, nmL_map_p, frzL_map_p, okL_p, toPVs_p, repsZ, nmL_reps, putC_vi, get_flV0, get_flV1, Int.toNat_zero, Int.toNat_one, Int.reduceToNat, eqV_slice, eqV_ptr, eqV_func, nilS, nilP, nilF, nmL_append, true_or, or_true, and_self, true_and, and_true, Option.some.injEq, reduceCtorEq, false_or, or_false, VV.p.injEq, PV.at.injEq, Value.int.injEq, sl1, vi, bl1, vb, nilV, slP, hnm, z1])
        (all_goals first | rfl | omega | exact ⟨rfl, by omega⟩)
  · have h' : k = W := by omega
    subst h'
    have hw := hnone hj
    rw [hw, if_neg (by simp)] at hfv
    rw [hfv]
    have k3 := kend M hM
    have kA := ka M
    clear ko kend ka hhit hnone hfv hj
    generalize esM M = E0 at *
    generalize overS c l A = x at *
    (repeat (first | refine VC.seq ?_ | refine VC.block ?_ | refine VC.kill ?_ | refine VC.skip ?_ | refine VC.exit ?_ | refine VC.regA ?_ | refine VC.condT ?_ | refine VC.condF ?_))
    (refine VC.regCA ?_; refine VO.moreA ?_; refine VO.call0A (no_orc _ (by decide)) klow ?_; refine VO.endA ?_; (repeat (first | refine VC.seq ?_ | refine VC.block ?_ | refine VC.kill ?_ | refine VC.skip ?_ | refine VC.exit ?_ | refine VC.regA ?_ | refine VC.condT ?_ | refine VC.condF ?_)))
    cases hlow : (l.any fun q => decide (q.1 < 0)) with
    | true =>
      (repeat (first | refine VC.seq ?_ | refine VC.block ?_ | refine VC.kill ?_ | refine VC.skip ?_ | refine VC.exit ?_ | refine VC.regA ?_ | refine VC.condT ?_ | refine VC.condF ?_))
      exact VC.ret (Fin.A rfl)
    | false =>
      (repeat (first | refine VC.seq ?_ | refine VC.block ?_ | refine VC.kill ?_ | refine VC.skip ?_ | refine VC.exit ?_ | refine VC.regA ?_ | refine VC.condT ?_ | refine VC.condF ?_))
      refine VC.regCA ?_
      refine VO.moreA ?_
      refine VO.call [] [(p16, .cells FL), (p14, .map E0)] .lf rfl rfl (no_orc 57 (by decide)) kA trivial ?_ ?_ rfl rfl rfl rfl rfl rfl rfl ?_
      · simp [mkB, PT.set, PT.Le, VSt.kill]
      · simp [mkB, PT.set, PT.Le, VSt.kill]
      (simp only [filtN, filtNB, mkB, PT.set, VSt.put, PT.filt, noref, norefB, nos, nm, nmL, nmB, nmL_vi, nmL_map_p, nmE_ag, flV_nm, List.nil_append, List.append_nil, Pa.eqb, cond_true, cond_false, Bool.and_true, Bool.not_false, Bool.not_true])
      refine VO.moreA ?_
      refine VO.call [] [(p16, .cells FL), (p14, .map E0)] .lf rfl rfl (no_orc 62 (by decide)) k3 trivial ?_ ?_ rfl rfl rfl rfl rfl rfl rfl ?_
      · simp [mkB, PT.set, PT.Le, VSt.kill]
      · simp [mkB, PT.set, PT.Le, VSt.kill]
      (simp only [filtN, filtNB, mkB, PT.set, VSt.put, PT.filt, noref, norefB, nos, nm, nmL, nmB, nmL_vi, nmL_map_p, nmE_ag, flV_nm, List.nil_append, List.append_nil, Pa.eqb, cond_true, cond_false, Bool.and_true, Bool.not_false, Bool.not_true])
      refine VO.endA ?_
      (repeat (first | refine VC.seq ?_ | refine VC.block ?_ | refine VC.kill ?_ | refine VC.skip ?_ | refine VC.exit ?_ | refine VC.regA ?_ | refine VC.condT ?_ | refine VC.condF ?_))
      exact VC.ret (Fin.A rfl)
end Go.Ab.Dues

namespace Go.Ab.Dues
open Go.Ab.V
set_option maxRecDepth 100000
set_option maxHeartbeats 8000000 in
theorem RShares_ok (c : Can) (l : List (Int × Int)) (hl : l.length ≤ 1000) (h7 : c.ships.length ≤ 1000) : VCall cfg 26 [canV c, slP l] [] [] (vb (decide (okSh c l))) [] := by
  unfold canV slP
  (refine VCall.mk (fn := a26) rfl rfl rfl ?_; simp only [a26, inV, mkB, nmsL, PT.set])
  (repeat (first | refine VC.seq ?_ | refine VC.block ?_ | refine VC.kill ?_ | refine VC.skip ?_ | refine VC.exit ?_ | refine VC.regA ?_ | refine VC.condT ?_ | refine VC.condF ?_))
  refine VC.loopG (fun (i : Nat) => ⟨inV [p1, p2, p5] [slP l, .op 0 p2 0, vi i] .lf, mkB [(p2, .cells [sl1 c.up, sl1 c.cost, sl1 c.ships])] .lf, [], none⟩) (fun n i => n = l.length - i ∧ i ≤ l.length ∧ ∀ j (hj : j < i) (hj' : j < l.length), okQ l[j]) (x := 0) ?_ ⟨rfl, Nat.zero_le _, fun j hj => absurd hj (Nat.not_lt_zero j)⟩ ?_
  · (apply Go.Ab.V.G.weak; constructor <;> simp (config := {decide := true}) only [PT.Le, inV, mkB, PT.set, VSt.kill, VSt.adopt, VSt.alloc, PT.filt, PT.map, List.map_cons, List.map_nil, noref, norefB, deadB, deadV, nos, nm, nmL, nmB, nmE, Pa.eqb, cond_true, cond_false, Bool.not_true, Bool.not_false, Bool.and_true, Bool.true_and, nmL_vi, flV_len, flP_len, flV_nm, flV_ok, flV_pv, flP_map, drop_flP, drop_flV, putC_flV, eqV2, eqV3, bneT, bneF, decide_true, decide_false, frzL_vi, frzL_flV, nmE_ag, nmE_at, frzE_ag, frzE_at, ofAg_len, ofAt_len, atL_vi, nmL_map_p, frzL_map_p, okL_p, toPVs_p, repsZ, nmL_reps, putC_vi, get_flV0, get_flV1, Int.toNat_zero, Int.toNat_one, Int.reduceToNat, eqV_slice, eqV_ptr, eqV_func, nilS, nilP, nilF, nmL_append, true_or, or_true, and_self, true_and, and_true, Option.some.injEq, reduceCtorEq, false_or, or_false, VV.p.injEq, PV.at.injEq, Value.int.injEq, sl1, vi, bl1, vb, nilV, slP, sl1])
    (all_goals first | rfl | omega | exact ⟨rfl, by omega⟩)
  rintro n i ⟨hn, hi, ho⟩
  simp only [inV, PT.set, mkB, slP]
  (repeat (first | refine VC.seq ?_ | refine VC.block ?_ | refine VC.kill ?_ | refine VC.skip ?_ | refine VC.exit ?_ | refine VC.regA ?_ | refine VC.condT ?_ | refine VC.condF ?_))
  refine VC.condA ?_ ?_ <;> intro h' <;> (simp only [decide_eq_true_eq, decide_eq_false_iff_not, bne_iff_ne, ne_eq, bne_eq_false_iff_eq, beq_iff_eq, beq_eq_false_iff_ne, Bool.not_eq_true', Bool.not_eq_false', Bool.and_eq_true, Bool.or_eq_true, Int.natCast_inj] at h')
  · have h' : i < l.length := by omega
    have hbad : ¬okQ l[i] → decide (okSh c l) = false := fun hq => decide_eq_false fun hs => hq (hs.2 _ (List.getElem_mem h'))
    have hgo : okQ l[i] → ∀ j (hj : j < i + 1) (hj' : j < l.length), okQ l[j] := fun hq j hj hj' => by
      rcases Nat.lt_or_ge j i with h1 | h1
      · exact ho j h1 hj'
      · have : j = i := by omega
        subst this; exact hq
    (repeat (first | refine VC.seq ?_ | refine VC.block ?_ | refine VC.kill ?_ | refine VC.skip ?_ | refine VC.exit ?_ | refine VC.regA ?_ | refine VC.condT ?_ | refine VC.condF ?_))
    by_cases q1 : l[i].1 < -1000000000
    · rw [hbad (fun hq => by have := hq.1.1; omega)]
      (repeat (first | refine VC.seq ?_ | refine VC.block ?_ | refine VC.kill ?_ | refine VC.skip ?_ | refine VC.exit ?_ | refine VC.regA ?_ | refine VC.condT ?_ | refine VC.condF ?_))
      exact VC.ret (Fin.A rfl)
    by_cases q2 : 1000000000 < l[i].1
    · rw [hbad (fun hq => by have := hq.1.2; omega)]
      (repeat (first | refine VC.seq ?_ | refine VC.block ?_ | refine VC.kill ?_ | refine VC.skip ?_ | refine VC.exit ?_ | refine VC.regA ?_ | refine VC.condT ?_ | refine VC.condF ?_))
      exact VC.ret (Fin.A rfl)
    by_cases q3 : l[i].2 < 1
    · rw [hbad (fun hq => by have := hq.2.1; omega)]
      (repeat (first | refine VC.seq ?_ | refine VC.block ?_ | refine VC.kill ?_ | refine VC.skip ?_ | refine VC.exit ?_ | refine VC.regA ?_ | refine VC.condT ?_ | refine VC.condF ?_))
      exact VC.ret (Fin.A rfl)
    by_cases q6 : 5040 < l[i].2
    · rw [hbad (fun hq => by have := okQ_le hq; omega)]
      (repeat (first | refine VC.seq ?_ | refine VC.block ?_ | refine VC.kill ?_ | refine VC.skip ?_ | refine VC.exit ?_ | refine VC.regA ?_ | refine VC.condT ?_ | refine VC.condF ?_))
      exact VC.ret (Fin.A rfl)
    have q30 : ¬l[i].2 = 0 := by omega
    by_cases q4 : 5040 % l[i].2 = 0
    rotate_left
    · rw [hbad (fun hq => q4 hq.2.2.1)]
      (repeat (first | refine VC.seq ?_ | refine VC.block ?_ | refine VC.kill ?_ | refine VC.skip ?_ | refine VC.exit ?_ | refine VC.regA ?_ | refine VC.condT ?_ | refine VC.condF ?_))
      ((try (apply VC.regU; · ((simp (config := {decide := false, maxSteps := 1000000}) (disch := omega) only [vev_call, putC_c0, putC_n0, putC_cs, ble0, List.getElem?_cons_zero, List.getElem?_cons_succ, runU, isCall, wantV, vev, evV, ofVal, ofAtom, atomB, cond_true, cond_false, PT.get, PT.set, PT.filt, PT.map, Option.getD_some, Option.getD_none, ret1V, ret1X, v_ld, v_ias, v_iad, v_fad, v_slsl, v_slarr, v_st, v_app, v_cpy, v_clr, v_len, v_look, v_mset, elsV, partV, newV, free, atV, atI, atL, toVal, cellsV, okV, VSt.put, VSt.kill, VSt.alloc, VSt.frz, VSt.adopt, noref, norefB, deadB, deadV, nos, nm, nmL, nmB, nmE, Pa.eqb, Bool.not_false, Bool.not_true, Bool.and_true, Bool.true_and, Bool.false_and, Bool.and_false, bin, intOps, intBin, cvt, un, goInt, bndsV, bndV, Option.map_some, Option.map_none, List.map_cons, List.map_nil, Int.toNat_natCast, Nat.mul_one, Nat.zero_add, beq_true, beq_false, beq_self_eq_true, List.length_map, List.length_cons, List.length_nil, List.length_append, fillV, pEvV, repsV, List.append_nil, List.nil_append, if_pos, if_neg, reduceIte, List.getElem?_map, List.getElem?_drop, Nat.add_zero, List.getElem?_eq_getElem, Go.IntWalk.i64_in, wrap_u64, tmod_pos, eq_self, true_and, and_true, and_self, List.all_cons, List.all_nil, nmL_vi, flV_len, flP_len, flV_nm, flV_ok, flV_pv, flP_map, drop_flP, drop_flV, putC_flV, eqV2, eqV3, bneT, bneF, decide_true, decide_false, frzL_vi, frzL_flV, nmE_ag, nmE_at, frzE_ag, frzE_at, ofAg_len, ofAt_len, atL_vi, nmL_map_p, frzL_map_p, okL_p, toPVs_p, repsZ, nmL_reps, putC_vi, get_flV0, get_flV1, Int.toNat_zero, Int.toNat_one, Int.reduceToNat, eqV_slice, eqV_ptr, eqV_func, nilS, nilP, nilF, nmL_append, okL_vi, toPVs_vi, toPVs, toPV, frzV, frzL, frzB, resVV, vi, vb, nilV, sl1, bl1, pi, foldV, max2, min2, max_eq, min_eq, Int.tdiv_eq_ediv_of_nonneg, Int.cast_ofNat_Int, Option.isSome_none, Option.isSome_some, Option.isNone_none, Option.isNone_some, and_false, false_and, sl2, sl1P, slP, min_cast, take_map_pi, map_pi, Nat.sub_zero, Nat.zero_mul, List.length_take, decide_eq_true, decide_eq_false, Bool.true_eq_false, Bool.false_eq_true, beqT, beqF, ibeq, ibne, List.take_zero, List.take_succ_cons, List.drop_zero, List.drop_succ_cons, List.drop_nil, List.take_nil, List.cons_append, Bool.not_true, Bool.not_false, q4]); rfl))); (repeat (first | refine VC.seq ?_ | refine VC.block ?_ | refine VC.kill ?_ | refine VC.skip ?_ | refine VC.exit ?_ | refine VC.regA ?_ | refine VC.condT ?_ | refine VC.condF ?_)))
      exact VC.ret (Fin.A rfl)
    have kg := gcdR_ok l[i].1 l[i].2 (by omega) (by omega)
    by_cases q5 : Int.gcd l[i].1 l[i].2 = 1
    · have hq : okQ l[i] := ⟨⟨by omega, by omega⟩, by omega, q4, q5⟩
      rw [q5] at kg
      have hgo := hgo hq
      clear hbad ho
      apply VC.regC
      · (simp (config := {decide := false, maxSteps := 1000000}) (disch := omega) only [vev_call, putC_c0, putC_n0, putC_cs, ble0, List.getElem?_cons_zero, List.getElem?_cons_succ, runU, isCall, wantV, vev, evV, ofVal, ofAtom, atomB, cond_true, cond_false, PT.get, PT.set, PT.filt, PT.map, Option.getD_some, Option.getD_none, ret1V, ret1X, v_ld, v_ias, v_iad, v_fad, v_slsl, v_slarr, v_st, v_app, v_cpy, v_clr, v_len, v_look, v_mset, elsV, partV, newV, free, atV, atI, atL, toVal, cellsV, okV, VSt.put, VSt.kill, VSt.alloc, VSt.frz, VSt.adopt, noref, norefB, deadB, deadV, nos, nm, nmL, nmB, nmE, Pa.eqb, Bool.not_false, Bool.not_true, Bool.and_true, Bool.true_and, Bool.false_and, Bool.and_false, bin, intOps, intBin, cvt, un, goInt, bndsV, bndV, Option.map_some, Option.map_none, List.map_cons, List.map_nil, Int.toNat_natCast, Nat.mul_one, Nat.zero_add, beq_true, beq_false, beq_self_eq_true, List.length_map, List.length_cons, List.length_nil, List.length_append, fillV, pEvV, repsV, List.append_nil, List.nil_append, if_pos, if_neg, reduceIte, List.getElem?_map, List.getElem?_drop, Nat.add_zero, List.getElem?_eq_getElem, Go.IntWalk.i64_in, wrap_u64, tmod_pos, eq_self, true_and, and_true, and_self, List.all_cons, List.all_nil, nmL_vi, flV_len, flP_len, flV_nm, flV_ok, flV_pv, flP_map, drop_flP, drop_flV, putC_flV, eqV2, eqV3, bneT, bneF, decide_true, decide_false, frzL_vi, frzL_flV, nmE_ag, nmE_at, frzE_ag, frzE_at, ofAg_len, ofAt_len, atL_vi, nmL_map_p, frzL_map_p, okL_p, toPVs_p, repsZ, nmL_reps, putC_vi, get_flV0, get_flV1, Int.toNat_zero, Int.toNat_one, Int.reduceToNat, eqV_slice, eqV_ptr, eqV_func, nilS, nilP, nilF, nmL_append, okL_vi, toPVs_vi, toPVs, toPV, frzV, frzL, frzB, resVV, vi, vb, nilV, sl1, bl1, pi, foldV, max2, min2, max_eq, min_eq, Int.tdiv_eq_ediv_of_nonneg, Int.cast_ofNat_Int, Option.isSome_none, Option.isSome_some, Option.isNone_none, Option.isNone_some, and_false, false_and, sl2, sl1P, slP, min_cast, take_map_pi, map_pi, Nat.sub_zero, Nat.zero_mul, List.length_take, decide_eq_true, decide_eq_false, Bool.true_eq_false, Bool.false_eq_true, beqT, beqF, ibeq, ibne, List.take_zero, List.take_succ_cons, List.drop_zero, List.drop_succ_cons, List.drop_nil, List.take_nil, List.cons_append, Bool.not_true, Bool.not_false, q4])
        rfl
      refine VO.call0A (no_orc 65 (by decide)) kg ?_
      refine VO.endA ?_
      (repeat (first | refine VC.seq ?_ | refine VC.block ?_ | refine VC.kill ?_ | refine VC.skip ?_ | refine VC.exit ?_ | refine VC.regA ?_ | refine VC.condT ?_ | refine VC.condF ?_))
      refine ⟨_, i + 1, ?_, ⟨rfl, by omega, hgo⟩, ?_⟩
      · omega
      · (apply Go.Ab.V.G.weak; constructor <;> simp (config := {decide := true}) only [PT.Le, inV, mkB, PT.set, VSt.kill, VSt.adopt, VSt.alloc, PT.filt, PT.map, List.map_cons, List.map_nil, noref, norefB, deadB, deadV, nos, nm, nmL, nmB, nmE, Pa.eqb, cond_true, cond_false, Bool.not_true, Bool.not_false, Bool.and_true, Bool.true_and, nmL_vi, flV_len, flP_len, flV_nm, flV_ok, flV_pv, flP_map, drop_flP, drop_flV, putC_flV, eqV2, eqV3, bneT, bneF, decide_true, decide_false, frzL_vi, frzL_flV, nmE_ag, nmE_at, frzE_ag, frzE_at, ofAg_len, ofAt_len, atL_vi, nmL_map_p, frzL_map_p, okL_p, toPVs_p, repsZ, nmL_reps, putC_vi, get_flV0, get_flV1, Int.toNat_zero, Int.toNat_one, Int.reduceToNat, eqV_slice, eqV_ptr, eqV_func, nilS, nilP, nilF, nmL_append, true_or, or_true, and_self, true_and, and_true, Option.some.injEq, reduceCtorEq, false_or, or_false, VV.p.injEq, PV.at.injEq, Value.int.injEq, sl1, vi, bl1, vb, nilV, slP, sl1])
        (all_goals first | rfl | omega | exact ⟨rfl, by omega⟩)
    · rw [hbad (fun hq => q5 hq.2.2.2)]
      have hg : ¬((Int.gcd l[i].1 l[i].2 : Nat) : Int) = 1 := by omega
      generalize ((Int.gcd l[i].1 l[i].2 : Nat) : Int) = g at *
      clear hbad hgo ho
      apply VC.regC
      · (simp (config := {decide := false, maxSteps := 1000000}) (disch := omega) only [vev_call, putC_c0, putC_n0, putC_cs, ble0, List.getElem?_cons_zero, List.getElem?_cons_succ, runU, isCall, wantV, vev, evV, ofVal, ofAtom, atomB, cond_true, cond_false, PT.get, PT.set, PT.filt, PT.map, Option.getD_some, Option.getD_none, ret1V, ret1X, v_ld, v_ias, v_iad, v_fad, v_slsl, v_slarr, v_st, v_app, v_cpy, v_clr, v_len, v_look, v_mset, elsV, partV, newV, free, atV, atI, atL, toVal, cellsV, okV, VSt.put, VSt.kill, VSt.alloc, VSt.frz, VSt.adopt, noref, norefB, deadB, deadV, nos, nm, nmL, nmB, nmE, Pa.eqb, Bool.not_false, Bool.not_true, Bool.and_true, Bool.true_and, Bool.false_and, Bool.and_false, bin, intOps, intBin, cvt, un, goInt, bndsV, bndV, Option.map_some, Option.map_none, List.map_cons, List.map_nil, Int.toNat_natCast, Nat.mul_one, Nat.zero_add, beq_true, beq_false, beq_self_eq_true, List.length_map, List.length_cons, List.length_nil, List.length_append, fillV, pEvV, repsV, List.append_nil, List.nil_append, if_pos, if_neg, reduceIte, List.getElem?_map, List.getElem?_drop, Nat.add_zero, List.getElem?_eq_getElem, Go.IntWalk.i64_in, wrap_u64, tmod_pos, eq_self, true_and, and_true, and_self, List.all_cons, List.all_nil, nmL_vi, flV_len, flP_len, flV_nm, flV_ok, flV_pv, flP_map, drop_flP, drop_flV, putC_flV, eqV2, eqV3, bneT, bneF, decide_true, decide_false, frzL_vi, frzL_flV, nmE_ag, nmE_at, frzE_ag, frzE_at, ofAg_len, ofAt_len, atL_vi, nmL_map_p, frzL_map_p, okL_p, toPVs_p, repsZ, nmL_reps, putC_vi, get_flV0, get_flV1, Int.toNat_zero, Int.toNat_one, Int.reduceToNat, eqV_slice, eqV_ptr, eqV_func, nilS, nilP, nilF, nmL_append, okL_vi, toPVs_vi, toPVs, toPV, frzV, frzL, frzB, resVV, vi, vb, nilV, sl1, bl1, pi, foldV, max2, min2, max_eq, min_eq, Int.tdiv_eq_ediv_of_nonneg, Int.cast_ofNat_Int, Option.isSome_none, Option.isSome_some, Option.isNone_none, Option.isNone_some, and_false, false_and, sl2, sl1P, slP, min_cast, take_map_pi, map_pi, Nat.sub_zero, Nat.zero_mul, List.length_take, decide_eq_true, decide_eq_false, Bool.true_eq_false, Bool.false_eq_true, beqT, beqF, ibeq, ibne, List.take_zero, List.take_succ_cons, List.drop_zero, List.drop_succ_cons, List.drop_nil, List.take_nil, List.cons_append, Bool.not_true, Bool.not_false, q4])
        rfl
      refine VO.call0A (no_orc 65 (by decide)) kg ?_
      refine VO.endA ?_
      (repeat (first | refine VC.seq ?_ | refine VC.block ?_ | refine VC.kill ?_ | refine VC.skip ?_ | refine VC.exit ?_ | refine VC.regA ?_ | refine VC.condT ?_ | refine VC.condF ?_))
      exact VC.ret (Fin.A rfl)
  have hi : i = l.length := by omega
  have hq : ∀ q ∈ l, okQ q := fun q hq => by
    obtain ⟨j, hj, rfl⟩ := List.mem_iff_getElem.1 hq
    exact ho j (by omega) hj
  have e : decide (okSh c l) = decide ((l.length : Int) = (c.ships.length : Int)) := by
    rw [Bool.eq_iff_iff, decide_eq_true_eq, decide_eq_true_eq]
    exact ⟨fun h => by rw [h.1], fun h => ⟨by omega, hq⟩⟩
  rw [e]
  clear ho hq
  (repeat (first | refine VC.seq ?_ | refine VC.block ?_ | refine VC.kill ?_ | refine VC.skip ?_ | refine VC.exit ?_ | refine VC.regA ?_ | refine VC.condT ?_ | refine VC.condF ?_))
  exact VC.ret (Fin.A rfl)
def sgn (x : Int) : Int := if 0 < x then 1 else if x < 0 then -1 else 0
def payS (l : List (Int × Int)) (S : Nat) (k : Nat) : Int := sumL (ovL l (bitsTo S k))
theorem payS_succ (l : List (Int × Int)) (S k : Nat) : payS l S (k + 1) = payS l S k + (if S.testBit k = true then pay (l.getD k (0, 1)) else 0) := by
  unfold payS
  rw [bitsTo_succ]
  split
  · unfold ovL
    rw [List.map_append, List.map_cons, List.map_nil]
    unfold sumL
    rw [List.foldl_append]; rfl
  · omega
theorem payS_bd (l : List (Int × Int)) (S K : Nat) (hq : ∀ q ∈ l, -(K : Int) ≤ pay q ∧ pay q ≤ (K : Int)) : ∀ i, i ≤ l.length → -((i * K : Nat) : Int) ≤ payS l S i ∧ payS l S i ≤ ((i * K : Nat) : Int)
  | 0, _ => by simp [payS, bitsTo, ovL, sumL]
  | i + 1, hi => by
    have := payS_bd l S K hq i (by omega)
    rw [payS_succ, Nat.succ_mul]
    split
    · have hp := hq _ (List.getElem_mem (show i < l.length by omega))
      have hgd : l.getD i (0, 1) = l[i] := by rw [List.getD_eq_getElem?_getD, List.getElem?_eq_getElem (show i < l.length by omega)]; rfl
      rw [hgd]; omega
    · omega
set_option maxHeartbeats 8000000 in
theorem RPays_ok (l : List (Int × Int)) (hl : l.length ≤ 10) (hq : ∀ q ∈ l, okQ q) (S : Nat) (hS : S < 4611686018427387904) (k : Int) (hk : 0 ≤ k ∧ k ≤ 100000) : VCall cfg 33 [slP l, vi S, vi k] [] [] (vi (sgn (payS l S l.length - 5040 * k))) [] := by
  have hbd := payS_bd l S 5040000000000 (fun q h => pay_bd (hq q h))
  unfold slP
  (refine VCall.mk (fn := a33) rfl rfl rfl ?_; simp only [a33, inV, mkB, nmsL, PT.set])
  (repeat (first | refine VC.seq ?_ | refine VC.block ?_ | refine VC.kill ?_ | refine VC.skip ?_ | refine VC.exit ?_ | refine VC.regA ?_ | refine VC.condT ?_ | refine VC.condF ?_))
  refine VC.loopG (fun (i : Nat) => ⟨inV [p0, p1, p7, p8] [slP l, vi S, vi (payS l S i - 5040 * k), vi i] .lf, .lf, [], none⟩) (fun n i => n = l.length - i ∧ i ≤ l.length) (x := 0) ?_ ⟨rfl, Nat.zero_le _⟩ ?_
  · have h0 : payS l S 0 = 0 := by simp [payS, bitsTo, ovL, sumL]
    rw [h0]
    (apply Go.Ab.V.G.weak; constructor <;> simp (config := {decide := true}) only [PT.Le, inV, mkB, PT.set, VSt.kill, VSt.adopt, VSt.alloc, PT.filt, PT.map, List.map_cons, List.map_nil, noref, norefB, deadB, deadV, nos, nm, nmL, nmB, nmE, Pa.eqb, cond_true, cond_false, Bool.not_true, Bool.not_false, Bool.and_true, Bool.true_and, nmL_vi, flV_len, flP_len, flV_nm, flV_ok, flV_pv, flP_map, drop_flP, drop_flV, putC_flV, eqV2, eqV3, bneT, bneF, decide_true, decide_false, frzL_vi, frzL_flV, nmE_ag, nmE_at, frzE_ag, frzE_at, ofAg_len, ofAt_len, atL_vi, nmL_map_p, frzL_map_p, okL_p, toPVs_p, repsZ, nmL_reps, putC_vi, get_flV0, get_flV1, Int.toNat_zero, Int.toNat_one, Int.reduceToNat, eqV_slice, eqV_ptr, eqV_func, nilS, nilP, nilF, nmL_append, true_or, or_true, and_self, true_and, and_true, Option.some.injEq, reduceCtorEq, false_or, or_false, VV.p.injEq, PV.at.injEq, Value.int.injEq, sl1, vi, bl1, vb, nilV, slP])
    (all_goals first | rfl | omega | exact ⟨rfl, by omega⟩)
  rintro n i ⟨hn, hi⟩
  simp only [inV, PT.set, slP]
  have hb := hbd i hi
  have hb2 : i * 5040000000000 ≤ 10 * 5040000000000 := Nat.mul_le_mul_right _ (by omega)
  have hps := payS_succ l S i
  have hend : i = l.length → payS l S i = payS l S l.length := fun e => by rw [e]
  generalize payS l S i = u at *
  (repeat (first | refine VC.seq ?_ | refine VC.block ?_ | refine VC.kill ?_ | refine VC.skip ?_ | refine VC.exit ?_ | refine VC.regA ?_ | refine VC.condT ?_ | refine VC.condF ?_))
  refine VC.condA ?_ ?_ <;> intro h' <;> (simp only [decide_eq_true_eq, decide_eq_false_iff_not, bne_iff_ne, ne_eq, bne_eq_false_iff_eq, beq_iff_eq, beq_eq_false_iff_ne, Bool.not_eq_true', Bool.not_eq_false', Bool.and_eq_true, Bool.or_eq_true, Int.natCast_inj] at h')
  · have h' : i < l.length := by omega
    have hqs := hq _ (List.getElem_mem h')
    have hgd : l.getD i (0, 1) = l[i] := by rw [List.getD_eq_getElem?_getD, List.getElem?_eq_getElem h']; rfl
    rw [hgd] at hps
    have hfd := fdivI (a := S) (p := i) (by omega)
    have hbm := bit_mod S i
    generalize hw : S >>> i = w at *
    have htm : (w : Int).tmod 2 = ((w % 2 : Nat) : Int) := by rw [Int.tmod_eq_emod_of_nonneg (by omega)]; omega
    cases hbt : S.testBit i with
    | true =>
      rw [hbt] at hps hbm
      simp only [if_true] at hps hbm
      rw [hbm] at htm
      obtain ⟨z0, hz0⟩ := Int.eq_ofNat_of_zero_le (show 0 ≤ l[i].2 by have := hqs.2.1; omega)
      have hu0 : ¬(z0 : Int) = 0 := by have := hqs.2.1; omega
      have hpb := pay_bd hqs
      have hpe : pay l[i] = l[i].1 * ((5040 / z0 : Nat) : Int) := by unfold pay; rw [hz0]; rfl
      rw [hpe] at hps hpb
      have hq5 := q5040 (u := z0)
      generalize 5040 / z0 = z at *
      generalize hy : l[i].1 * (z : Int) = y at *
      have hw1 := wrapI (x := y) (by omega) (by omega)
      have hw2 := wrapI (x := u - 5040 * k + y) (by omega) (by omega)
      (repeat (first | refine VC.seq ?_ | refine VC.block ?_ | refine VC.kill ?_ | refine VC.skip ?_ | refine VC.exit ?_ | refine VC.regA ?_ | refine VC.condT ?_ | refine VC.condF ?_))
      simp only [hfd, htm]
      (repeat (first | refine VC.seq ?_ | refine VC.block ?_ | refine VC.kill ?_ | refine VC.skip ?_ | refine VC.exit ?_ | refine VC.regA ?_ | refine VC.condT ?_ | refine VC.condF ?_))
      ((try (apply VC.regU; · ((simp (config := {decide := false, maxSteps := 1000000}) (disch := omega) only [vev_call, putC_c0, putC_n0, putC_cs, ble0, List.getElem?_cons_zero, List.getElem?_cons_succ, runU, isCall, wantV, vev, evV, ofVal, ofAtom, atomB, cond_true, cond_false, PT.get, PT.set, PT.filt, PT.map, Option.getD_some, Option.getD_none, ret1V, ret1X, v_ld, v_ias, v_iad, v_fad, v_slsl, v_slarr, v_st, v_app, v_cpy, v_clr, v_len, v_look, v_mset, elsV, partV, newV, free, atV, atI, atL, toVal, cellsV, okV, VSt.put, VSt.kill, VSt.alloc, VSt.frz, VSt.adopt, noref, norefB, deadB, deadV, nos, nm, nmL, nmB, nmE, Pa.eqb, Bool.not_false, Bool.not_true, Bool.and_true, Bool.true_and, Bool.false_and, Bool.and_false, bin, intOps, intBin, cvt, un, goInt, bndsV, bndV, Option.map_some, Option.map_none, List.map_cons, List.map_nil, Int.toNat_natCast, Nat.mul_one, Nat.zero_add, beq_true, beq_false, beq_self_eq_true, List.length_map, List.length_cons, List.length_nil, List.length_append, fillV, pEvV, repsV, List.append_nil, List.nil_append, if_pos, if_neg, reduceIte, List.getElem?_map, List.getElem?_drop, Nat.add_zero, List.getElem?_eq_getElem, Go.IntWalk.i64_in, wrap_u64, tmod_pos, eq_self, true_and, and_true, and_self, List.all_cons, List.all_nil, nmL_vi, flV_len, flP_len, flV_nm, flV_ok, flV_pv, flP_map, drop_flP, drop_flV, putC_flV, eqV2, eqV3, bneT, bneF, decide_true, decide_false, frzL_vi, frzL_flV, nmE_ag, nmE_at, frzE_ag, frzE_at, ofAg_len, ofAt_len, atL_vi, nmL_map_p, frzL_map_p, okL_p, toPVs_p, repsZ, nmL_reps, putC_vi, get_flV0, get_flV1, Int.toNat_zero, Int.toNat_one, Int.reduceToNat, eqV_slice, eqV_ptr, eqV_func, nilS, nilP, nilF, nmL_append, okL_vi, toPVs_vi, toPVs, toPV, frzV, frzL, frzB, resVV, vi, vb, nilV, sl1, bl1, pi, foldV, max2, min2, max_eq, min_eq, Int.tdiv_eq_ediv_of_nonneg, Int.cast_ofNat_Int, Option.isSome_none, Option.isSome_some, Option.isNone_none, Option.isNone_some, and_false, false_and, sl2, sl1P, slP, min_cast, take_map_pi, map_pi, Nat.sub_zero, Nat.zero_mul, List.length_take, decide_eq_true, decide_eq_false, Bool.true_eq_false, Bool.false_eq_true, beqT, beqF, ibeq, ibne, List.take_zero, List.take_succ_cons, List.drop_zero, List.drop_succ_cons, List.drop_nil, List.take_nil, List.cons_append, Bool.not_true, Bool.not_false, hz0, hq5, hy, hw1, hw2]); rfl))); (repeat (first | refine VC.seq ?_ | refine VC.block ?_ | refine VC.kill ?_ | refine VC.skip ?_ | refine VC.exit ?_ | refine VC.regA ?_ | refine VC.condT ?_ | refine VC.condF ?_)))
      refine ⟨_, i + 1, ?_, ⟨rfl, by omega⟩, ?_⟩
      · omega
      · (apply Go.Ab.V.G.weak; constructor <;> simp (config := {decide := true}) only [PT.Le, inV, mkB, PT.set, VSt.kill, VSt.adopt, VSt.alloc, PT.filt, PT.map, List.map_cons, List.map_nil, noref, norefB, deadB, deadV, nos, nm, nmL, nmB, nmE, Pa.eqb, cond_true, cond_false, Bool.not_true, Bool.not_false, Bool.and_true, Bool.true_and, nmL_vi, flV_len, flP_len, flV_nm, flV_ok, flV_pv, flP_map, drop_flP, drop_flV, putC_flV, eqV2, eqV3, bneT, bneF, decide_true, decide_false, frzL_vi, frzL_flV, nmE_ag, nmE_at, frzE_ag, frzE_at, ofAg_len, ofAt_len, atL_vi, nmL_map_p, frzL_map_p, okL_p, toPVs_p, repsZ, nmL_reps, putC_vi, get_flV0, get_flV1, Int.toNat_zero, Int.toNat_one, Int.reduceToNat, eqV_slice, eqV_ptr, eqV_func, nilS, nilP, nilF, nmL_append, true_or, or_true, and_self, true_and, and_true, Option.some.injEq, reduceCtorEq, false_or, or_false, VV.p.injEq, PV.at.injEq, Value.int.injEq, sl1, vi, bl1, vb, nilV, slP, hps, hz0, hq5, hy, hw1, hw2])
        (all_goals first | rfl | omega | exact ⟨rfl, by omega⟩)
    | false =>
      rw [hbt] at hps hbm
      simp only [Bool.false_eq_true, if_false] at hps hbm
      rw [hbm] at htm
      (repeat (first | refine VC.seq ?_ | refine VC.block ?_ | refine VC.kill ?_ | refine VC.skip ?_ | refine VC.exit ?_ | refine VC.regA ?_ | refine VC.condT ?_ | refine VC.condF ?_))
      simp only [hfd, htm]
      (repeat (first | refine VC.seq ?_ | refine VC.block ?_ | refine VC.kill ?_ | refine VC.skip ?_ | refine VC.exit ?_ | refine VC.regA ?_ | refine VC.condT ?_ | refine VC.condF ?_))
      refine ⟨_, i + 1, ?_, ⟨rfl, by omega⟩, ?_⟩
      · omega
      · (apply Go.Ab.V.G.weak; constructor <;> simp (config := {decide := true}) only [PT.Le, inV, mkB, PT.set, VSt.kill, VSt.adopt, VSt.alloc, PT.filt, PT.map, List.map_cons, List.map_nil, noref, norefB, deadB, deadV, nos, nm, nmL, nmB, nmE, Pa.eqb, cond_true, cond_false, Bool.not_true, Bool.not_false, Bool.and_true, Bool.true_and, nmL_vi, flV_len, flP_len, flV_nm, flV_ok, flV_pv, flP_map, drop_flP, drop_flV, putC_flV, eqV2, eqV3, bneT, bneF, decide_true, decide_false, frzL_vi, frzL_flV, nmE_ag, nmE_at, frzE_ag, frzE_at, ofAg_len, ofAt_len, atL_vi, nmL_map_p, frzL_map_p, okL_p, toPVs_p, repsZ, nmL_reps, putC_vi, get_flV0, get_flV1, Int.toNat_zero, Int.toNat_one, Int.reduceToNat, eqV_slice, eqV_ptr, eqV_func, nilS, nilP, nilF, nmL_append, true_or, or_true, and_self, true_and, and_true, Option.some.injEq, reduceCtorEq, false_or, or_false, VV.p.injEq, PV.at.injEq, Value.int.injEq, sl1, vi, bl1, vb, nilV, slP, hps])
        (all_goals first | rfl | omega | exact ⟨rfl, by omega⟩)
  · have hu := hend (by omega)
    rw [← hu]
    generalize u - 5040 * k = x at *
    (repeat (first | refine VC.seq ?_ | refine VC.block ?_ | refine VC.kill ?_ | refine VC.skip ?_ | refine VC.exit ?_ | refine VC.regA ?_ | refine VC.condT ?_ | refine VC.condF ?_))
    refine VC.condA ?_ ?_ <;> intro h1 <;> (simp only [decide_eq_true_eq, decide_eq_false_iff_not, bne_iff_ne, ne_eq, bne_eq_false_iff_eq, beq_iff_eq, beq_eq_false_iff_ne, Bool.not_eq_true', Bool.not_eq_false', Bool.and_eq_true, Bool.or_eq_true, Int.natCast_inj] at h1)
    · have : sgn x = 1 := by unfold sgn; rw [if_pos (by omega)]
      rw [this]
      (repeat (first | refine VC.seq ?_ | refine VC.block ?_ | refine VC.kill ?_ | refine VC.skip ?_ | refine VC.exit ?_ | refine VC.regA ?_ | refine VC.condT ?_ | refine VC.condF ?_))
      exact VC.ret (Fin.A rfl)
    · (repeat (first | refine VC.seq ?_ | refine VC.block ?_ | refine VC.kill ?_ | refine VC.skip ?_ | refine VC.exit ?_ | refine VC.regA ?_ | refine VC.condT ?_ | refine VC.condF ?_))
      refine VC.condA ?_ ?_ <;> intro h2 <;> (simp only [decide_eq_true_eq, decide_eq_false_iff_not, bne_iff_ne, ne_eq, bne_eq_false_iff_eq, beq_iff_eq, beq_eq_false_iff_ne, Bool.not_eq_true', Bool.not_eq_false', Bool.and_eq_true, Bool.or_eq_true, Int.natCast_inj] at h2)
      · have : sgn x = -1 := by unfold sgn; rw [if_neg (by omega), if_pos (by omega)]
        rw [this]
        (repeat (first | refine VC.seq ?_ | refine VC.block ?_ | refine VC.kill ?_ | refine VC.skip ?_ | refine VC.exit ?_ | refine VC.regA ?_ | refine VC.condT ?_ | refine VC.condF ?_))
        exact VC.ret (Fin.A rfl)
      · have : sgn x = 0 := by unfold sgn; rw [if_neg (by omega), if_neg (by omega)]
        rw [this]
        (repeat (first | refine VC.seq ?_ | refine VC.block ?_ | refine VC.kill ?_ | refine VC.skip ?_ | refine VC.exit ?_ | refine VC.regA ?_ | refine VC.condT ?_ | refine VC.condF ?_))
        exact VC.ret (Fin.A rfl)
theorem sgn_pos (x : Int) : sgn x > 0 ↔ 0 < x := by unfold sgn; split <;> (try split) <;> omega
theorem sgn_zero (x : Int) : sgn x = 0 ↔ x = 0 := by unfold sgn; split <;> (try split) <;> omega
theorem payS_over {c : Can} (h : okC c) {l : List (Int × Int)} (hl : l.length = c.ships.length) {S : Nat} (hS : S < 2 ^ c.ships.length) : payS l S l.length - 5040 * costS c S = overS c l S := by
  unfold payS overS
  have := h.s7
  rw [hl, bitsTo_end hS (by omega)]
def fairR (c : Can) (l : List (Int × Int)) : VV := if wW c l ≠ 0 then .tup [vi (wW c l), vb false] else .tup [vi 0, vb (!(l.any fun q => decide (q.1 < 0)) && decide (overS c l (2 ^ c.ships.length - 1) = 0))]
set_option maxHeartbeats 16000000 in
theorem RFair_ok (c : Can) (h : okC c) (l : List (Int × Int)) (hsh : okSh c l) : VCall cfg 27 [canV c, slP l] [] [] (fairR c l) [] := by
  have h7 := h.s7
  have hl := hsh.1
  have kc := RCostOf_ok c h
  have hcb := costS_bd h
  have hp7 : 2 ^ c.ships.length ≤ 128 := (show 2 ^ c.ships.length ≤ 2 ^ 7 from Nat.pow_le_pow_right (by decide) h7)
  have hp0 : 0 < 2 ^ c.ships.length := Nat.pow_pos (by decide)
  have kp : ∀ S : Nat, S < 2 ^ c.ships.length → VCall cfg 33 [slP l, vi S, vi (costS c S)] [] [] (vi (sgn (overS c l S))) [] := fun S hS => by
    have := RPays_ok l (by omega) hsh.2 S (by omega) (costS c S) (by have := hcb S; omega)
    rw [payS_over h hl hS] at this; exact this
  have hhit := fun k (hk : k < 2 ^ c.ships.length) h1 h2 => wW_hit (c := c) (l := l) hk h1 h2
  have hnone := wW_none (c := c) (l := l)
  have h00 := over0 c l
  have hshw := shl_w (q := c.ships.length) (by omega)
  have hsub : ((2 ^ c.ships.length : Nat) : Int) - 1 = ((2 ^ c.ships.length - 1 : Nat) : Int) := by omega
  have hfr : fairR c l = if wW c l ≠ 0 then .tup [vi (wW c l), vb false] else .tup [vi 0, vb (!(l.any fun q => decide (q.1 < 0)) && decide (overS c l (2 ^ c.ships.length - 1) = 0))] := rfl
  have hAW : 2 ^ c.ships.length - 1 + 1 = 2 ^ c.ships.length := by omega
  have h01 : ∀ j < 1, overS c l j ≤ 0 := fun j hj => by
    have : j = 0 := by omega
    subst this; omega
  generalize 2 ^ c.ships.length - 1 = A at *
  generalize 2 ^ c.ships.length = W at *
  unfold canV slP at *
  (refine VCall.mk (fn := a27) rfl rfl rfl ?_; simp only [a27, inV, mkB, nmsL, PT.set])
  (repeat (first | refine VC.seq ?_ | refine VC.block ?_ | refine VC.kill ?_ | refine VC.skip ?_ | refine VC.exit ?_ | refine VC.regA ?_ | refine VC.condT ?_ | refine VC.condF ?_))
  simp only [Int.toNat_natCast, hshw, hsub]
  refine VC.loopG (fun (k : Nat) => ⟨inV [p1, p2, p6, p7] [slP l, .op 0 p2 0, vi A, vi k] .lf, mkB [(p2, .cells [sl1 c.up, sl1 c.cost, sl1 c.ships])] .lf, [], none⟩) (fun n k => n = W - k ∧ 1 ≤ k ∧ k ≤ W ∧ ∀ j < k, overS c l j ≤ 0) (x := 1) ?_ ⟨rfl, by omega, by omega, h01⟩ ?_
  · (apply Go.Ab.V.G.weak; constructor <;> simp (config := {decide := true}) only [PT.Le, inV, mkB, PT.set, VSt.kill, VSt.adopt, VSt.alloc, PT.filt, PT.map, List.map_cons, List.map_nil, noref, norefB, deadB, deadV, nos, nm, nmL, nmB, nmE, Pa.eqb, cond_true, cond_false, Bool.not_true, Bool.not_false, Bool.and_true, Bool.true_and, nmL_vi, flV_len, flP_len, flV_nm, flV_ok, flV_pv, flP_map, drop_flP, drop_flV, putC_flV, eqV2, eqV3, bneT, bneF, decide_true, decide_false, frzL_vi, frzL_flV, nmE_ag, nmE_at, frzE_ag, frzE_at, ofAg_len, ofAt_len, atL_vi, nmL_map_p, frzL_map_p, okL_p, toPVs_p, repsZ, nmL_reps, putC_vi, get_flV0, get_flV1, Int.toNat_zero, Int.toNat_one, Int.reduceToNat, eqV_slice, eqV_ptr, eqV_func, nilS, nilP, nilF, nmL_append, true_or, or_true, and_self, true_and, and_true, Option.some.injEq, reduceCtorEq, false_or, or_false, VV.p.injEq, PV.at.injEq, Value.int.injEq, sl1, vi, bl1, vb, nilV, slP, sl1])
    (all_goals first | rfl | omega | exact ⟨rfl, by omega⟩)
  rintro n k ⟨hn, hk1, hk, hj⟩
  simp only [inV, PT.set, mkB, slP]
  (repeat (first | refine VC.seq ?_ | refine VC.block ?_ | refine VC.kill ?_ | refine VC.skip ?_ | refine VC.exit ?_ | refine VC.regA ?_ | refine VC.condT ?_ | refine VC.condF ?_))
  refine VC.condA ?_ ?_ <;> intro h' <;> (simp only [decide_eq_true_eq, decide_eq_false_iff_not, bne_iff_ne, ne_eq, bne_eq_false_iff_eq, beq_iff_eq, beq_eq_false_iff_ne, Bool.not_eq_true', Bool.not_eq_false', Bool.and_eq_true, Bool.or_eq_true, Int.natCast_inj] at h')
  · have h' : k < W := by omega
    have k1 := kc k h'
    have k2 := kp k h'
    have hhit := fun hx => hhit k h' hx hj
    have hsp := sgn_pos (overS c l k)
    have hgo : overS c l k ≤ 0 → ∀ j < k + 1, overS c l j ≤ 0 := fun hx j hj' => by
      rcases Nat.lt_or_ge j k with h1 | h1
      · exact hj j h1
      · have : j = k := by omega
        subst this; exact hx
    clear kc kp hj hcb
    generalize costS c k = x at *
    generalize sgn (overS c l k) = y at *
    (repeat (first | refine VC.seq ?_ | refine VC.block ?_ | refine VC.kill ?_ | refine VC.skip ?_ | refine VC.exit ?_ | refine VC.regA ?_ | refine VC.condT ?_ | refine VC.condF ?_))
    (refine VC.regCA ?_; refine VO.moreA ?_; refine VO.call0A (no_orc _ (by decide)) k1 ?_)
    (refine VO.moreA ?_; refine VO.call0A (no_orc _ (by decide)) k2 ?_)
    (refine VO.endA ?_; (repeat (first | refine VC.seq ?_ | refine VC.block ?_ | refine VC.kill ?_ | refine VC.skip ?_ | refine VC.exit ?_ | refine VC.regA ?_ | refine VC.condT ?_ | refine VC.condF ?_)))
    refine VC.condA ?_ ?_ <;> intro h2 <;> (simp only [decide_eq_true_eq, decide_eq_false_iff_not, bne_iff_ne, ne_eq, bne_eq_false_iff_eq, beq_iff_eq, beq_eq_false_iff_ne, Bool.not_eq_true', Bool.not_eq_false', Bool.and_eq_true, Bool.or_eq_true, Int.natCast_inj] at h2)
    · have hw := hhit (hsp.1 h2)
      rw [hw, if_pos (by omega)] at hfr
      rw [hfr]
      clear hhit hgo hnone hsp
      (repeat (first | refine VC.seq ?_ | refine VC.block ?_ | refine VC.kill ?_ | refine VC.skip ?_ | refine VC.exit ?_ | refine VC.regA ?_ | refine VC.condT ?_ | refine VC.condF ?_))
      exact VC.ret (Fin.A rfl)
    · have hgo := hgo (by have := fun e => h2 (hsp.2 e); omega)
      clear hhit hnone hsp
      (repeat (first | refine VC.seq ?_ | refine VC.block ?_ | refine VC.kill ?_ | refine VC.skip ?_ | refine VC.exit ?_ | refine VC.regA ?_ | refine VC.condT ?_ | refine VC.condF ?_))
      refine ⟨_, k + 1, ?_, ⟨rfl, by omega, by omega, hgo⟩, ?_⟩
      · omega
      · (apply Go.Ab.V.G.weak; constructor <;> simp (config := {decide := true}) only [PT.Le, inV, mkB, PT.set, VSt.kill, VSt.adopt, VSt.alloc, PT.filt, PT.map, List.map_cons, List.map_nil, noref, norefB, deadB, deadV, nos, nm, nmL, nmB, nmE, Pa.eqb, cond_true, cond_false, Bool.not_true, Bool.not_false, Bool.and_true, Bool.true_and, nmL_vi, flV_len, flP_len, flV_nm, flV_ok, flV_pv, flP_map, drop_flP, drop_flV, putC_flV, eqV2, eqV3, bneT, bneF, decide_true, decide_false, frzL_vi, frzL_flV, nmE_ag, nmE_at, frzE_ag, frzE_at, ofAg_len, ofAt_len, atL_vi, nmL_map_p, frzL_map_p, okL_p, toPVs_p, repsZ, nmL_reps, putC_vi, get_flV0, get_flV1, Int.toNat_zero, Int.toNat_one, Int.reduceToNat, eqV_slice, eqV_ptr, eqV_func, nilS, nilP, nilF, nmL_append, true_or, or_true, and_self, true_and, and_true, Option.some.injEq, reduceCtorEq, false_or, or_false, VV.p.injEq, PV.at.injEq, Value.int.injEq, sl1, vi, bl1, vb, nilV, slP, sl1])
        (all_goals first | rfl | omega | exact ⟨rfl, by omega⟩)
  · have h' : k = W := by omega
    subst h'
    have hw := hnone hj
    rw [hw, if_neg (by simp)] at hfr
    rw [hfr]
    have k1 := kc A (by omega)
    have k2 := kp A (by omega)
    have hsz := sgn_zero (overS c l A)
    clear kc kp hj hcb hhit hnone hfr
    generalize costS c A = x at *
    generalize overS c l A = ov at *
    (repeat (first | refine VC.seq ?_ | refine VC.block ?_ | refine VC.kill ?_ | refine VC.skip ?_ | refine VC.exit ?_ | refine VC.regA ?_ | refine VC.condT ?_ | refine VC.condF ?_))
    refine VC.loopG (fun (i : Nat) => ⟨inV [p1, p2, p6, p8] [slP l, .op 0 p2 0, vi A, vi i] .lf, mkB [(p2, .cells [sl1 c.up, sl1 c.cost, sl1 c.ships])] .lf, [], none⟩) (fun n i => n = l.length - i ∧ i ≤ l.length ∧ ∀ j (hj : j < i) (hj' : j < l.length), ¬l[j].1 < 0) (x := 0) ?_ ⟨rfl, Nat.zero_le _, fun j hj => absurd hj (Nat.not_lt_zero j)⟩ ?_
    · (apply Go.Ab.V.G.weak; constructor <;> simp (config := {decide := true}) only [PT.Le, inV, mkB, PT.set, VSt.kill, VSt.adopt, VSt.alloc, PT.filt, PT.map, List.map_cons, List.map_nil, noref, norefB, deadB, deadV, nos, nm, nmL, nmB, nmE, Pa.eqb, cond_true, cond_false, Bool.not_true, Bool.not_false, Bool.and_true, Bool.true_and, nmL_vi, flV_len, flP_len, flV_nm, flV_ok, flV_pv, flP_map, drop_flP, drop_flV, putC_flV, eqV2, eqV3, bneT, bneF, decide_true, decide_false, frzL_vi, frzL_flV, nmE_ag, nmE_at, frzE_ag, frzE_at, ofAg_len, ofAt_len, atL_vi, nmL_map_p, frzL_map_p, okL_p, toPVs_p, repsZ, nmL_reps, putC_vi, get_flV0, get_flV1, Int.toNat_zero, Int.toNat_one, Int.reduceToNat, eqV_slice, eqV_ptr, eqV_func, nilS, nilP, nilF, nmL_append, true_or, or_true, and_self, true_and, and_true, Option.some.injEq, reduceCtorEq, false_or, or_false, VV.p.injEq, PV.at.injEq, Value.int.injEq, sl1, vi, bl1, vb, nilV, slP, sl1])
      (all_goals first | rfl | omega | exact ⟨rfl, by omega⟩)
    rintro n i ⟨hn, hi, ho⟩
    simp only [inV, PT.set, mkB, slP]
    (repeat (first | refine VC.seq ?_ | refine VC.block ?_ | refine VC.kill ?_ | refine VC.skip ?_ | refine VC.exit ?_ | refine VC.regA ?_ | refine VC.condT ?_ | refine VC.condF ?_))
    refine VC.condA ?_ ?_ <;> intro h' <;> (simp only [decide_eq_true_eq, decide_eq_false_iff_not, bne_iff_ne, ne_eq, bne_eq_false_iff_eq, beq_iff_eq, beq_eq_false_iff_ne, Bool.not_eq_true', Bool.not_eq_false', Bool.and_eq_true, Bool.or_eq_true, Int.natCast_inj] at h')
    · have h' : i < l.length := by omega
      have hin : l[i].1 < 0 → (l.any fun q => decide (q.1 < 0)) = true := fun e => List.any_eq_true.2 ⟨_, List.getElem_mem h', decide_eq_true e⟩
      have hgo : ¬l[i].1 < 0 → ∀ j (hj : j < i + 1) (hj' : j < l.length), ¬l[j].1 < 0 := fun hq j hj hj' => by
        rcases Nat.lt_or_ge j i with h1 | h1
        · exact ho j h1 hj'
        · have : j = i := by omega
          subst this; exact hq
      clear ho
      (repeat (first | refine VC.seq ?_ | refine VC.block ?_ | refine VC.kill ?_ | refine VC.skip ?_ | refine VC.exit ?_ | refine VC.regA ?_ | refine VC.condT ?_ | refine VC.condF ?_))
      refine VC.condA ?_ ?_ <;> intro h2 <;> (simp only [decide_eq_true_eq, decide_eq_false_iff_not, bne_iff_ne, ne_eq, bne_eq_false_iff_eq, beq_iff_eq, beq_eq_false_iff_ne, Bool.not_eq_true', Bool.not_eq_false', Bool.and_eq_true, Bool.or_eq_true, Int.natCast_inj] at h2)
      · rw [hin h2]
        clear hgo hin
        (repeat (first | refine VC.seq ?_ | refine VC.block ?_ | refine VC.kill ?_ | refine VC.skip ?_ | refine VC.exit ?_ | refine VC.regA ?_ | refine VC.condT ?_ | refine VC.condF ?_))
        exact VC.ret (Fin.A rfl)
      · have hgo := hgo h2
        clear hin
        (repeat (first | refine VC.seq ?_ | refine VC.block ?_ | refine VC.kill ?_ | refine VC.skip ?_ | refine VC.exit ?_ | refine VC.regA ?_ | refine VC.condT ?_ | refine VC.condF ?_))
        refine ⟨_, i + 1, ?_, ⟨rfl, by omega, hgo⟩, ?_⟩
        · omega
        · (apply Go.Ab.V.G.weak; constructor <;> simp (config := {decide := true}) only [PT.Le, inV, mkB, PT.set, VSt.kill, VSt.adopt, VSt.alloc, PT.filt, PT.map, List.map_cons, List.map_nil, noref, norefB, deadB, deadV, nos, nm, nmL, nmB, nmE, Pa.eqb, cond_true, cond_false, Bool.not_true, Bool.not_false, Bool.and_true, Bool.true_and, nmL_vi, flV_len, flP_len, flV_nm, flV_ok, flV_pv, flP_map, drop_flP, drop_flV, putC_flV, eqV2, eqV3, bneT, bneF, decide_true, decide_false, frzL_vi, frzL_flV, nmE_ag, nmE_at, frzE_ag, frzE_at, ofAg_len, ofAt_len, atL_vi, nmL_map_p, frzL_map_p, okL_p, toPVs_p, repsZ, nmL_reps, putC_vi, get_flV0, get_flV1, Int.toNat_zero, Int.toNat_one, Int.reduceToNat, eqV_slice, eqV_ptr, eqV_func, nilS, nilP, nilF, nmL_append, true_or, or_true, and_self, true_and, and_true, Option.some.injEq, reduceCtorEq, false_or, or_false, VV.p.injEq, PV.at.injEq, Value.int.injEq, sl1, vi, bl1, vb, nilV, slP, sl1])
          (all_goals first | rfl | omega | exact ⟨rfl, by omega⟩)
    · have hlow : (l.any fun q => decide (q.1 < 0)) = false := by
        rw [List.any_eq_false]
        intro q hq
        obtain ⟨j, hj, rfl⟩ := List.mem_iff_getElem.1 hq
        have := ho j (by omega) hj
        rw [decide_eq_false this]; simp
      rw [hlow]
      have e : decide (ov = 0) = decide (sgn ov = 0) := by rw [Bool.eq_iff_iff, decide_eq_true_eq, decide_eq_true_eq]; exact hsz.symm
      rw [e]
      clear ho hsz hlow e
      generalize sgn ov = y at *
      (repeat (first | refine VC.seq ?_ | refine VC.block ?_ | refine VC.kill ?_ | refine VC.skip ?_ | refine VC.exit ?_ | refine VC.regA ?_ | refine VC.condT ?_ | refine VC.condF ?_))
      (refine VC.regCA ?_; refine VO.moreA ?_; refine VO.call0A (no_orc _ (by decide)) k1 ?_)
      (refine VO.moreA ?_; refine VO.call0A (no_orc _ (by decide)) k2 ?_)
      (refine VO.endA ?_; (repeat (first | refine VC.seq ?_ | refine VC.block ?_ | refine VC.kill ?_ | refine VC.skip ?_ | refine VC.exit ?_ | refine VC.regA ?_ | refine VC.condT ?_ | refine VC.condF ?_)))
      exact VC.ret (Fin.A rfl)
end Go.Ab.Dues

namespace Go.Ab.Dues
open Go.Ab.V
set_option maxRecDepth 100000
theorem eqS_all_bd {c : Can} (h : okC c) (l : List Nat) (hl : l.length ≤ 10) : eqS c l ≤ 4200000 := by
  have := eqS_bd h l l.length (Nat.le_refl _)
  rw [List.take_length] at this; omega
theorem equal_bd {c : Can} (h : okC c) : ∀ q ∈ frI (equalN c c.ships.length), (0 ≤ q.1 ∧ q.1 ≤ 4200000) ∧ 1 ≤ q.2 ∧ q.2 ≤ 420 := by
  intro q hq
  obtain ⟨r, hr, rfl⟩ := List.mem_map.1 hq
  obtain ⟨s, _, rfl⟩ := List.mem_map.1 hr
  have h1 := eqS_all_bd h (bitsN ((needK c c.ships.length).getD s 0)) (bitsN_len _)
  obtain ⟨n1, n2, n3, _⟩ := nrm_den (a := eqS c (bitsN ((needK c c.ships.length).getD s 0))) (b := 420) (by decide)
  simp only
  omega
theorem slP_take (l : List (Int × Int)) (m : Nat) : slP (l.take m) = .p (.sl 2 (min l.length m) (flP (l.take (min l.length m)))) := by
  have : l.take (min l.length m) = l.take m := by
    rcases Nat.le_total l.length m with h | h
    · rw [Nat.min_eq_left h, List.take_of_length_le h, List.take_length]
    · rw [Nat.min_eq_right h]
  rw [slP, this, List.length_take, Nat.min_comm]
set_option maxHeartbeats 16000000 in
theorem fairs_law (c0 : Can) (l : List (Int × Int)) (h1 : c0.up.length ≤ 9223372036854775807) (h2 : c0.cost.length ≤ 9223372036854775807) (h3 : c0.ships.length ≤ 9223372036854775807) (h4 : l.length ≤ 9223372036854775807) : VCall cfg 4 [canV c0, slP l] [] [] (vb true) [] := by
  have k1 := tame_ok c0 7 (by decide) h1 h2 h3
  have h := tame_okC c0 7 (by decide)
  generalize tameC c0 7 = c at *
  have h7 := h.s7
  have h10 := h.n10
  have hcl := h.cl
  have k2 := given_ok c (by omega) (by omega) (by omega)
  have kI := fun p hp => IsFair_ok c h p hp
  have kS := fun p hp => RShares_ok c p hp (by omega)
  have kF := fun p hp => RFair_ok c h p hp
  have kE := REqualO_ok c h
  have hEb := equal_bd h
  have hEl : (frI (equalN c c.ships.length)).length = c.ships.length := by rw [frI_len, equalN_len]
  generalize frI (equalN c c.ships.length) = E at *
  unfold canV at *
  have hslP : ∀ p, slP p = .p (.sl 2 p.length (flP p)) := fun p => rfl
  rw [hslP l]
  (refine VCall.mk (fn := a4) rfl rfl rfl ?_; simp only [a4, inV, mkB, nmsL, PT.set])
  (repeat (first | refine VC.seq ?_ | refine VC.block ?_ | refine VC.kill ?_ | refine VC.skip ?_ | refine VC.exit ?_ | refine VC.regA ?_ | refine VC.condT ?_ | refine VC.condF ?_))
  (refine VC.regCA ?_; refine VO.moreA ?_; refine VO.call0A (no_orc _ (by decide)) k1 ?_; refine VO.endA ?_; (repeat (first | refine VC.seq ?_ | refine VC.block ?_ | refine VC.kill ?_ | refine VC.skip ?_ | refine VC.exit ?_ | refine VC.regA ?_ | refine VC.condT ?_ | refine VC.condF ?_)))
  (refine VC.regCA ?_; refine VO.moreA ?_; refine VO.call0A (no_orc _ (by decide)) k2 ?_; refine VO.endA ?_; (repeat (first | refine VC.seq ?_ | refine VC.block ?_ | refine VC.kill ?_ | refine VC.skip ?_ | refine VC.exit ?_ | refine VC.regA ?_ | refine VC.condT ?_ | refine VC.condF ?_)))
  have hmn : (min (l.length : Int) 8).toNat = min l.length 8 := by omega
  simp only [hmn, take_flP, flP_map]
  refine VC.frzA p25 (hb := rfl) (hc := flV_pv _) ?_
  simp only [VSt.frz, PT.map, frzL, frzV, frzB, Option.map_some, Option.map_none, PT.set, PT.filt, VSt.kill, Pa.eqb, cond_true, cond_false, Bool.and_true, Bool.and_false, Bool.false_and, Bool.true_and]
  have hsl := slP_take l 8
  rw [← hsl]
  refine VC.loopG (fun (q : Nat × List (Int × Int)) => ⟨inV [p1, p5, p6, p7, p8] [slP l, .op 0 p5 0, .op 0 p6 0, slP q.2, vi q.1] .lf, mkB [(p5, .cells [sl1 c.up, sl1 c.cost, sl1 c.ships]), (p6, .cells [sl1 c.up, sl1 c.cost, sl1 c.ships])] .lf, [], none⟩) (fun n q => n = 2 - q.1 ∧ q.1 ≤ 2 ∧ q.2.length ≤ 8) (x := (0, l.take 8)) ?_ ⟨rfl, Nat.zero_le _, by simp only [List.length_take]; omega⟩ ?_
  · (apply Go.Ab.V.G.weak; constructor <;> simp (config := {decide := true}) only [PT.Le, inV, mkB, PT.set, VSt.kill, VSt.adopt, VSt.alloc, PT.filt, PT.map, List.map_cons, List.map_nil, noref, norefB, deadB, deadV, nos, nm, nmL, nmB, nmE, Pa.eqb, cond_true, cond_false, Bool.not_true, Bool.not_false, Bool.and_true, Bool.true_and, nmL_vi, flV_len, flP_len, flV_nm, flV_ok, flV_pv, flP_map, drop_flP, drop_flV, putC_flV, eqV2, eqV3, bneT, bneF, decide_true, decide_false, frzL_vi, frzL_flV, nmE_ag, nmE_at, frzE_ag, frzE_at, ofAg_len, ofAt_len, atL_vi, nmL_map_p, frzL_map_p, okL_p, toPVs_p, repsZ, nmL_reps, putC_vi, get_flV0, get_flV1, Int.toNat_zero, Int.toNat_one, Int.reduceToNat, eqV_slice, eqV_ptr, eqV_func, nilS, nilP, nilF, nmL_append, true_or, or_true, and_self, true_and, and_true, Option.some.injEq, reduceCtorEq, false_or, or_false, VV.p.injEq, PV.at.injEq, Value.int.injEq, sl1, vi, bl1, vb, nilV, sl1])
    (all_goals first | rfl | omega | exact ⟨rfl, by omega⟩)
  rintro n ⟨r, p⟩ ⟨hn, hr, hp⟩
  simp only at hn hr hp
  simp only [inV, PT.set, mkB]
  have kI := kI p (by omega)
  have kS := kS p (by omega)
  have kF := kF p
  (repeat (first | refine VC.seq ?_ | refine VC.block ?_ | refine VC.kill ?_ | refine VC.skip ?_ | refine VC.exit ?_ | refine VC.regA ?_ | refine VC.condT ?_ | refine VC.condF ?_))
  refine VC.condA ?_ ?_ <;> intro h' <;> (simp only [decide_eq_true_eq, decide_eq_false_iff_not, bne_iff_ne, ne_eq, bne_eq_false_iff_eq, beq_iff_eq, beq_eq_false_iff_ne, Bool.not_eq_true', Bool.not_eq_false', Bool.and_eq_true, Bool.or_eq_true, Int.natCast_inj] at h')
  rotate_left
  · (repeat (first | refine VC.seq ?_ | refine VC.block ?_ | refine VC.kill ?_ | refine VC.skip ?_ | refine VC.exit ?_ | refine VC.regA ?_ | refine VC.condT ?_ | refine VC.condF ?_))
    refine VC.regCA ?_
    refine VO.moreA ?_
    refine VO.knownA (.bool true) rfl ?_
    refine VO.endA ?_
    (repeat (first | refine VC.seq ?_ | refine VC.block ?_ | refine VC.kill ?_ | refine VC.skip ?_ | refine VC.exit ?_ | refine VC.regA ?_ | refine VC.condT ?_ | refine VC.condF ?_))
    exact VC.ret (Fin.A rfl)
  have hr2 : r < 2 := by omega
  by_cases hsh : okSh c p
  case' pos =>
    have kF := kF hsh
    rw [decide_eq_true hsh] at kS
    have hfv : ∃ (w : Int) (b : Bool), fairV c p = .tup [vi w, vb b, vi 0] ∧ fairR c p = .tup [vi w, vb b] := by
      unfold fairV fairR
      rw [if_pos hsh]
      split
      · exact ⟨_, _, rfl, rfl⟩
      · exact ⟨_, _, rfl, rfl⟩
    obtain ⟨w, b, e1, e2⟩ := hfv
    have heq : eqV .bool (.p (.at (.bool b))) (.p (.at (.bool b))) = some true := by cases b <;> rfl
    rw [e1] at kI
    rw [e2] at kF
    clear e1 e2
    (repeat (first | refine VC.seq ?_ | refine VC.block ?_ | refine VC.kill ?_ | refine VC.skip ?_ | refine VC.exit ?_ | refine VC.regA ?_ | refine VC.condT ?_ | refine VC.condF ?_))
    (refine VC.regCA ?_; refine VO.moreA ?_; refine VO.call0A (no_orc _ (by decide)) kI ?_; refine VO.endA ?_; (repeat (first | refine VC.seq ?_ | refine VC.block ?_ | refine VC.kill ?_ | refine VC.skip ?_ | refine VC.exit ?_ | refine VC.regA ?_ | refine VC.condT ?_ | refine VC.condF ?_)))
    (refine VC.regCA ?_; refine VO.moreA ?_; refine VO.call0A (no_orc _ (by decide)) kS ?_; refine VO.endA ?_; (repeat (first | refine VC.seq ?_ | refine VC.block ?_ | refine VC.kill ?_ | refine VC.skip ?_ | refine VC.exit ?_ | refine VC.regA ?_ | refine VC.condT ?_ | refine VC.condF ?_)))
    (refine VC.regCA ?_; refine VO.moreA ?_; refine VO.call0A (no_orc _ (by decide)) kF ?_; refine VO.endA ?_; (repeat (first | refine VC.seq ?_ | refine VC.block ?_ | refine VC.kill ?_ | refine VC.skip ?_ | refine VC.exit ?_ | refine VC.regA ?_ | refine VC.condT ?_ | refine VC.condF ?_)))
    ((try (apply VC.regU; · ((simp (config := {decide := false, maxSteps := 1000000}) (disch := omega) only [vev_call, putC_c0, putC_n0, putC_cs, ble0, List.getElem?_cons_zero, List.getElem?_cons_succ, runU, isCall, wantV, vev, evV, ofVal, ofAtom, atomB, cond_true, cond_false, PT.get, PT.set, PT.filt, PT.map, Option.getD_some, Option.getD_none, ret1V, ret1X, v_ld, v_ias, v_iad, v_fad, v_slsl, v_slarr, v_st, v_app, v_cpy, v_clr, v_len, v_look, v_mset, elsV, partV, newV, free, atV, atI, atL, toVal, cellsV, okV, VSt.put, VSt.kill, VSt.alloc, VSt.frz, VSt.adopt, noref, norefB, deadB, deadV, nos, nm, nmL, nmB, nmE, Pa.eqb, Bool.not_false, Bool.not_true, Bool.and_true, Bool.true_and, Bool.false_and, Bool.and_false, bin, intOps, intBin, cvt, un, goInt, bndsV, bndV, Option.map_some, Option.map_none, List.map_cons, List.map_nil, Int.toNat_natCast, Nat.mul_one, Nat.zero_add, beq_true, beq_false, beq_self_eq_true, List.length_map, List.length_cons, List.length_nil, List.length_append, fillV, pEvV, repsV, List.append_nil, List.nil_append, if_pos, if_neg, reduceIte, List.getElem?_map, List.getElem?_drop, Nat.add_zero, List.getElem?_eq_getElem, Go.IntWalk.i64_in, wrap_u64, tmod_pos, eq_self, true_and, and_true, and_self, List.all_cons, List.all_nil, nmL_vi, flV_len, flP_len, flV_nm, flV_ok, flV_pv, flP_map, drop_flP, drop_flV, putC_flV, eqV2, eqV3, bneT, bneF, decide_true, decide_false, frzL_vi, frzL_flV, nmE_ag, nmE_at, frzE_ag, frzE_at, ofAg_len, ofAt_len, atL_vi, nmL_map_p, frzL_map_p, okL_p, toPVs_p, repsZ, nmL_reps, putC_vi, get_flV0, get_flV1, Int.toNat_zero, Int.toNat_one, Int.reduceToNat, eqV_slice, eqV_ptr, eqV_func, nilS, nilP, nilF, nmL_append, okL_vi, toPVs_vi, toPVs, toPV, frzV, frzL, frzB, resVV, vi, vb, nilV, sl1, bl1, pi, foldV, max2, min2, max_eq, min_eq, Int.tdiv_eq_ediv_of_nonneg, Int.cast_ofNat_Int, Option.isSome_none, Option.isSome_some, Option.isNone_none, Option.isNone_some, and_false, false_and, sl2, sl1P, slP, min_cast, take_map_pi, map_pi, Nat.sub_zero, Nat.zero_mul, List.length_take, decide_eq_true, decide_eq_false, Bool.true_eq_false, Bool.false_eq_true, beqT, beqF, ibeq, ibne, List.take_zero, List.take_succ_cons, List.drop_zero, List.drop_succ_cons, List.drop_nil, List.take_nil, List.cons_append, Bool.not_true, Bool.not_false, heq]); rfl))); (repeat (first | refine VC.seq ?_ | refine VC.block ?_ | refine VC.kill ?_ | refine VC.skip ?_ | refine VC.exit ?_ | refine VC.regA ?_ | refine VC.condT ?_ | refine VC.condF ?_)))
  case' neg =>
    rw [decide_eq_false hsh] at kS
    have e1 : fairV c p = .tup [vi 0, vb false, vi 1] := by unfold fairV; rw [if_neg hsh]
    rw [e1] at kI
    clear kF e1
    (repeat (first | refine VC.seq ?_ | refine VC.block ?_ | refine VC.kill ?_ | refine VC.skip ?_ | refine VC.exit ?_ | refine VC.regA ?_ | refine VC.condT ?_ | refine VC.condF ?_))
    (refine VC.regCA ?_; refine VO.moreA ?_; refine VO.call0A (no_orc _ (by decide)) kI ?_; refine VO.endA ?_; (repeat (first | refine VC.seq ?_ | refine VC.block ?_ | refine VC.kill ?_ | refine VC.skip ?_ | refine VC.exit ?_ | refine VC.regA ?_ | refine VC.condT ?_ | refine VC.condF ?_)))
    (refine VC.regCA ?_; refine VO.moreA ?_; refine VO.call0A (no_orc _ (by decide)) kS ?_; refine VO.endA ?_; (repeat (first | refine VC.seq ?_ | refine VC.block ?_ | refine VC.kill ?_ | refine VC.skip ?_ | refine VC.exit ?_ | refine VC.regA ?_ | refine VC.condT ?_ | refine VC.condF ?_)))
  all_goals
    clear kS kI
    have hfin : ∀ (X : List (Int × Int)), X.length = c.ships.length → slP X = .p (.sl 2 c.ships.length (flP X)) := fun X hX => by unfold slP; rw [hX]
    by_cases hm2 : 2 ≤ c.ships.length
    · by_cases hl0 : 0 < l.length
      · obtain ⟨q0, l', rfl⟩ : ∃ q0 l', l = q0 :: l' := by
          cases l with
          | nil => exact absurd hl0 (Nat.lt_irrefl 0)
          | cons a b => exact ⟨a, b, rfl⟩
        have hmm : (c.ships.length : Int) % 18446744073709551616 = (c.ships.length : Int) := by omega
        have hE := Int.emod_nonneg (q0.1 % 18446744073709551616) (show (c.ships.length : Int) ≠ 0 by omega)
        have hF := Int.emod_lt_of_pos (q0.1 % 18446744073709551616) (show 0 < (c.ships.length : Int) by omega)
        obtain ⟨k, hk⟩ := Int.eq_ofNat_of_zero_le hE
        have hkl : k < E.length := by omega
        have hws := wrapI (x := (k : Int)) (by omega) (by omega)
        have hE2 := Int.emod_nonneg ((k : Int) + 1) (show (c.ships.length : Int) ≠ 0 by omega)
        have hF2 := Int.emod_lt_of_pos ((k : Int) + 1) (show 0 < (c.ships.length : Int) by omega)
        obtain ⟨k2, hk2⟩ := Int.eq_ofNat_of_zero_le hE2
        rw [hk2] at hF2
        have hk2l : k2 < E.length := by omega
        clear hE hF hE2
        have hb1 := hEb _ (List.getElem_mem hkl)
        have hl2 : (E.set k (E[k].1 + E[k].2, E[k].2)).length = c.ships.length := by rw [List.length_set]; exact hEl
        have hst := putC_flV (l := E) (i := k) (E[k].1 + E[k].2) E[k].2 hkl
        refine VC.regCA ?_
        refine VO.moreA ?_
        refine VO.callN (no_orc 21 (by decide)) kE rfl rfl rfl rfl rfl rfl ?_
        (simp only [filtN, filtNB, mkB, PT.set, VSt.put, PT.filt, noref, norefB, nos, nm, nmL, nmB, nmL_vi, nmL_map_p, nmE_ag, flV_nm, List.nil_append, List.append_nil, Pa.eqb, cond_true, cond_false, Bool.and_true, Bool.not_false, Bool.not_true])
        refine VO.endA ?_
        (repeat (first | refine VC.seq ?_ | refine VC.block ?_ | refine VC.kill ?_ | refine VC.skip ?_ | refine VC.exit ?_ | refine VC.regA ?_ | refine VC.condT ?_ | refine VC.condF ?_))
        ((try (apply VC.regU; · ((simp (config := {decide := false, maxSteps := 1000000}) (disch := omega) only [vev_call, putC_c0, putC_n0, putC_cs, ble0, List.getElem?_cons_zero, List.getElem?_cons_succ, runU, isCall, wantV, vev, evV, ofVal, ofAtom, atomB, cond_true, cond_false, PT.get, PT.set, PT.filt, PT.map, Option.getD_some, Option.getD_none, ret1V, ret1X, v_ld, v_ias, v_iad, v_fad, v_slsl, v_slarr, v_st, v_app, v_cpy, v_clr, v_len, v_look, v_mset, elsV, partV, newV, free, atV, atI, atL, toVal, cellsV, okV, VSt.put, VSt.kill, VSt.alloc, VSt.frz, VSt.adopt, noref, norefB, deadB, deadV, nos, nm, nmL, nmB, nmE, Pa.eqb, Bool.not_false, Bool.not_true, Bool.and_true, Bool.true_and, Bool.false_and, Bool.and_false, bin, intOps, intBin, cvt, un, goInt, bndsV, bndV, Option.map_some, Option.map_none, List.map_cons, List.map_nil, Int.toNat_natCast, Nat.mul_one, Nat.zero_add, beq_true, beq_false, beq_self_eq_true, List.length_map, List.length_cons, List.length_nil, List.length_append, fillV, pEvV, repsV, List.append_nil, List.nil_append, if_pos, if_neg, reduceIte, List.getElem?_map, List.getElem?_drop, Nat.add_zero, List.getElem?_eq_getElem, Go.IntWalk.i64_in, wrap_u64, tmod_pos, eq_self, true_and, and_true, and_self, List.all_cons, List.all_nil, nmL_vi, flV_len, flP_len, flV_nm, flV_ok, flV_pv, flP_map, drop_flP, drop_flV, putC_flV, eqV2, eqV3, bneT, bneF, decide_true, decide_false, frzL_vi, frzL_flV, nmE_ag, nmE_at, frzE_ag, frzE_at, ofAg_len, ofAt_len, atL_vi, nmL_map_p, frzL_map_p, okL_p, toPVs_p, repsZ, nmL_reps, putC_vi, get_flV0, get_flV1, Int.toNat_zero, Int.toNat_one, Int.reduceToNat, eqV_slice, eqV_ptr, eqV_func, nilS, nilP, nilF, nmL_append, okL_vi, toPVs_vi, toPVs, toPV, frzV, frzL, frzB, resVV, vi, vb, nilV, sl1, bl1, pi, foldV, max2, min2, max_eq, min_eq, Int.tdiv_eq_ediv_of_nonneg, Int.cast_ofNat_Int, Option.isSome_none, Option.isSome_some, Option.isNone_none, Option.isNone_some, and_false, false_and, sl2, sl1P, slP, min_cast, take_map_pi, map_pi, Nat.sub_zero, Nat.zero_mul, List.length_take, decide_eq_true, decide_eq_false, Bool.true_eq_false, Bool.false_eq_true, beqT, beqF, ibeq, ibne, List.take_zero, List.take_succ_cons, List.drop_zero, List.drop_succ_cons, List.drop_nil, List.take_nil, List.cons_append, Bool.not_true, Bool.not_false, flP_cons, hmm, hk, hws]); rfl))); (repeat (first | refine VC.seq ?_ | refine VC.block ?_ | refine VC.kill ?_ | refine VC.skip ?_ | refine VC.exit ?_ | refine VC.regA ?_ | refine VC.condT ?_ | refine VC.condF ?_)))
        ((try (apply VC.regU; · ((simp (config := {decide := false, maxSteps := 1000000}) (disch := omega) only [vev_call, putC_c0, putC_n0, putC_cs, ble0, List.getElem?_cons_zero, List.getElem?_cons_succ, runU, isCall, wantV, vev, evV, ofVal, ofAtom, atomB, cond_true, cond_false, PT.get, PT.set, PT.filt, PT.map, Option.getD_some, Option.getD_none, ret1V, ret1X, v_ld, v_ias, v_iad, v_fad, v_slsl, v_slarr, v_st, v_app, v_cpy, v_clr, v_len, v_look, v_mset, elsV, partV, newV, free, atV, atI, atL, toVal, cellsV, okV, VSt.put, VSt.kill, VSt.alloc, VSt.frz, VSt.adopt, noref, norefB, deadB, deadV, nos, nm, nmL, nmB, nmE, Pa.eqb, Bool.not_false, Bool.not_true, Bool.and_true, Bool.true_and, Bool.false_and, Bool.and_false, bin, intOps, intBin, cvt, un, goInt, bndsV, bndV, Option.map_some, Option.map_none, List.map_cons, List.map_nil, Int.toNat_natCast, Nat.mul_one, Nat.zero_add, beq_true, beq_false, beq_self_eq_true, List.length_map, List.length_cons, List.length_nil, List.length_append, fillV, pEvV, repsV, List.append_nil, List.nil_append, if_pos, if_neg, reduceIte, List.getElem?_map, List.getElem?_drop, Nat.add_zero, List.getElem?_eq_getElem, Go.IntWalk.i64_in, wrap_u64, tmod_pos, eq_self, true_and, and_true, and_self, List.all_cons, List.all_nil, nmL_vi, flV_len, flP_len, flV_nm, flV_ok, flV_pv, flP_map, drop_flP, drop_flV, putC_flV, eqV2, eqV3, bneT, bneF, decide_true, decide_false, frzL_vi, frzL_flV, nmE_ag, nmE_at, frzE_ag, frzE_at, ofAg_len, ofAt_len, atL_vi, nmL_map_p, frzL_map_p, okL_p, toPVs_p, repsZ, nmL_reps, putC_vi, get_flV0, get_flV1, Int.toNat_zero, Int.toNat_one, Int.reduceToNat, eqV_slice, eqV_ptr, eqV_func, nilS, nilP, nilF, nmL_append, okL_vi, toPVs_vi, toPVs, toPV, frzV, frzL, frzB, resVV, vi, vb, nilV, sl1, bl1, pi, foldV, max2, min2, max_eq, min_eq, Int.tdiv_eq_ediv_of_nonneg, Int.cast_ofNat_Int, Option.isSome_none, Option.isSome_some, Option.isNone_none, Option.isNone_some, and_false, false_and, sl2, sl1P, slP, min_cast, take_map_pi, map_pi, Nat.sub_zero, Nat.zero_mul, List.length_take, decide_eq_true, decide_eq_false, Bool.true_eq_false, Bool.false_eq_true, beqT, beqF, ibeq, ibne, List.take_zero, List.take_succ_cons, List.drop_zero, List.drop_succ_cons, List.drop_nil, List.take_nil, List.cons_append, Bool.not_true, Bool.not_false, hst]); rfl))); (repeat (first | refine VC.seq ?_ | refine VC.block ?_ | refine VC.kill ?_ | refine VC.skip ?_ | refine VC.exit ?_ | refine VC.regA ?_ | refine VC.condT ?_ | refine VC.condF ?_)))
        have hkk : (((k : Int) + 1) % (c.ships.length : Int)).toNat < (E.set k (E[k].1 + E[k].2, E[k].2)).length := by rw [hl2, hk2]; omega
        obtain ⟨X, hX⟩ : ∃ X, (E.set k (E[k].1 + E[k].2, E[k].2)).set (((k : Int) + 1) % (c.ships.length : Int)).toNat (IntKind.i64.wrap ((E.set k (E[k].1 + E[k].2, E[k].2))[(((k : Int) + 1) % (c.ships.length : Int)).toNat].1 - (E.set k (E[k].1 + E[k].2, E[k].2))[(((k : Int) + 1) % (c.ships.length : Int)).toNat].2), (E.set k (E[k].1 + E[k].2, E[k].2))[(((k : Int) + 1) % (c.ships.length : Int)).toNat].2) = X := ⟨_, rfl⟩
        have hXl : X.length = c.ships.length := by rw [← hX, List.length_set]; exact hl2
        rw [hX]
        refine ⟨_, (r + 1, X), ?_, ⟨rfl, by simp only; omega, by simp only; omega⟩, ?_⟩
        · simp only; omega
        · refine G.trans (G.frz (a := p51) (hb := rfl) (flV_pv _) rfl) ?_
          simp only [VSt.frz, PT.map, frzL, frzV, frzB, Option.map_some, Option.map_none, PT.set, PT.filt, VSt.kill, Pa.eqb, cond_true, cond_false, Bool.and_true, Bool.and_false, Bool.false_and, Bool.true_and]
          rw [hfin X hXl]
          (apply Go.Ab.V.G.weak; constructor <;> simp (config := {decide := true}) only [PT.Le, inV, mkB, PT.set, VSt.kill, VSt.adopt, VSt.alloc, PT.filt, PT.map, List.map_cons, List.map_nil, noref, norefB, deadB, deadV, nos, nm, nmL, nmB, nmE, Pa.eqb, cond_true, cond_false, Bool.not_true, Bool.not_false, Bool.and_true, Bool.true_and, nmL_vi, flV_len, flP_len, flV_nm, flV_ok, flV_pv, flP_map, drop_flP, drop_flV, putC_flV, eqV2, eqV3, bneT, bneF, decide_true, decide_false, frzL_vi, frzL_flV, nmE_ag, nmE_at, frzE_ag, frzE_at, ofAg_len, ofAt_len, atL_vi, nmL_map_p, frzL_map_p, okL_p, toPVs_p, repsZ, nmL_reps, putC_vi, get_flV0, get_flV1, Int.toNat_zero, Int.toNat_one, Int.reduceToNat, eqV_slice, eqV_ptr, eqV_func, nilS, nilP, nilF, nmL_append, true_or, or_true, and_self, true_and, and_true, Option.some.injEq, reduceCtorEq, false_or, or_false, VV.p.injEq, PV.at.injEq, Value.int.injEq, sl1, vi, bl1, vb, nilV, slP, sl1, flP_cons])
          (all_goals first | rfl | omega | exact ⟨rfl, by omega⟩)
      · refine VC.regCA ?_
        refine VO.moreA ?_
        refine VO.callN (no_orc 21 (by decide)) kE rfl rfl rfl rfl rfl rfl ?_
        (simp only [filtN, filtNB, mkB, PT.set, VSt.put, PT.filt, noref, norefB, nos, nm, nmL, nmB, nmL_vi, nmL_map_p, nmE_ag, flV_nm, List.nil_append, List.append_nil, Pa.eqb, cond_true, cond_false, Bool.and_true, Bool.not_false, Bool.not_true])
        refine VO.endA ?_
        (repeat (first | refine VC.seq ?_ | refine VC.block ?_ | refine VC.kill ?_ | refine VC.skip ?_ | refine VC.exit ?_ | refine VC.regA ?_ | refine VC.condT ?_ | refine VC.condF ?_))
        refine ⟨_, (r + 1, E), ?_, ⟨rfl, by simp only; omega, by simp only; omega⟩, ?_⟩
        · simp only; omega
        · refine G.trans (G.frz (a := p51) (hb := rfl) (flV_pv _) rfl) ?_
          simp only [VSt.frz, PT.map, frzL, frzV, frzB, Option.map_some, Option.map_none, PT.set, PT.filt, VSt.kill, Pa.eqb, cond_true, cond_false, Bool.and_true, Bool.and_false, Bool.false_and, Bool.true_and]
          rw [hfin E hEl]
          (apply Go.Ab.V.G.weak; constructor <;> simp (config := {decide := true}) only [PT.Le, inV, mkB, PT.set, VSt.kill, VSt.adopt, VSt.alloc, PT.filt, PT.map, List.map_cons, List.map_nil, noref, norefB, deadB, deadV, nos, nm, nmL, nmB, nmE, Pa.eqb, cond_true, cond_false, Bool.not_true, Bool.not_false, Bool.and_true, Bool.true_and, nmL_vi, flV_len, flP_len, flV_nm, flV_ok, flV_pv, flP_map, drop_flP, drop_flV, putC_flV, eqV2, eqV3, bneT, bneF, decide_true, decide_false, frzL_vi, frzL_flV, nmE_ag, nmE_at, frzE_ag, frzE_at, ofAg_len, ofAt_len, atL_vi, nmL_map_p, frzL_map_p, okL_p, toPVs_p, repsZ, nmL_reps, putC_vi, get_flV0, get_flV1, Int.toNat_zero, Int.toNat_one, Int.reduceToNat, eqV_slice, eqV_ptr, eqV_func, nilS, nilP, nilF, nmL_append, true_or, or_true, and_self, true_and, and_true, Option.some.injEq, reduceCtorEq, false_or, or_false, VV.p.injEq, PV.at.injEq, Value.int.injEq, sl1, vi, bl1, vb, nilV, slP, sl1])
          (all_goals first | rfl | omega | exact ⟨rfl, by omega⟩)
    · refine VC.regCA ?_
      refine VO.moreA ?_
      refine VO.callN (no_orc 21 (by decide)) kE rfl rfl rfl rfl rfl rfl ?_
      (simp only [filtN, filtNB, mkB, PT.set, VSt.put, PT.filt, noref, norefB, nos, nm, nmL, nmB, nmL_vi, nmL_map_p, nmE_ag, flV_nm, List.nil_append, List.append_nil, Pa.eqb, cond_true, cond_false, Bool.and_true, Bool.not_false, Bool.not_true])
      refine VO.endA ?_
      (repeat (first | refine VC.seq ?_ | refine VC.block ?_ | refine VC.kill ?_ | refine VC.skip ?_ | refine VC.exit ?_ | refine VC.regA ?_ | refine VC.condT ?_ | refine VC.condF ?_))
      refine ⟨_, (r + 1, E), ?_, ⟨rfl, by simp only; omega, by simp only; omega⟩, ?_⟩
      · simp only; omega
      · refine G.trans (G.frz (a := p51) (hb := rfl) (flV_pv _) rfl) ?_
        simp only [VSt.frz, PT.map, frzL, frzV, frzB, Option.map_some, Option.map_none, PT.set, PT.filt, VSt.kill, Pa.eqb, cond_true, cond_false, Bool.and_true, Bool.and_false, Bool.false_and, Bool.true_and]
        rw [hfin E hEl]
        (apply Go.Ab.V.G.weak; constructor <;> simp (config := {decide := true}) only [PT.Le, inV, mkB, PT.set, VSt.kill, VSt.adopt, VSt.alloc, PT.filt, PT.map, List.map_cons, List.map_nil, noref, norefB, deadB, deadV, nos, nm, nmL, nmB, nmE, Pa.eqb, cond_true, cond_false, Bool.not_true, Bool.not_false, Bool.and_true, Bool.true_and, nmL_vi, flV_len, flP_len, flV_nm, flV_ok, flV_pv, flP_map, drop_flP, drop_flV, putC_flV, eqV2, eqV3, bneT, bneF, decide_true, decide_false, frzL_vi, frzL_flV, nmE_ag, nmE_at, frzE_ag, frzE_at, ofAg_len, ofAt_len, atL_vi, nmL_map_p, frzL_map_p, okL_p, toPVs_p, repsZ, nmL_reps, putC_vi, get_flV0, get_flV1, Int.toNat_zero, Int.toNat_one, Int.reduceToNat, eqV_slice, eqV_ptr, eqV_func, nilS, nilP, nilF, nmL_append, true_or, or_true, and_self, true_and, and_true, Option.some.injEq, reduceCtorEq, false_or, or_false, VV.p.injEq, PV.at.injEq, Value.int.injEq, sl1, vi, bl1, vb, nilV, slP, sl1])
        (all_goals first | rfl | omega | exact ⟨rfl, by omega⟩)
end Go.Ab.Dues

namespace Go.Proofs.YtdjpaifhmiocnaaDoor.duesFairs
open Go.ChangeShapes Go.WideShapes Go.ChangeAt Go.RowKit
open Go.ChangeMaps (open_string shut_string)
open Go.Ab Go.Ab.V Go.Ab.Dues
set_option linter.unusedVariables false
theorem own : ownKnob Tryd.prog.godebug = none := by kernel_rfl
theorem laidOut : laidOutB Tryd.prog = true := by kernel_rfl
theorem orc : OrcOK Tryd.prog cfg := orcOK mixed tab0 (fun h => by cases h) rfl awake_closed
theorem tab : TabOK Tryd.prog cfg := tab0
set_option maxRecDepth 100000 in
theorem lifted (os : Os) (started : os.Started) (H : Type) (enc : TypeId × Value → H) :
    ReturnsInHanded {} Tryd.checked os 4 .any (fun w args => (Rows.duesFairsSpec.pre enc Tryd.prog Tryd.f4 Rows.duesFairsRow.domain false w args ∧ laidMetH Tryd.prog Rows.duesFairsRow.laid w) ∧ sizedMet enc Tryd.prog Tryd.f4 (OpenSpec.ofChange Rows.duesFairsSpec) false w args) (Rows.duesFairsSpec.post enc Tryd.prog Tryd.f4 false true false false) := by
  refine returnsInHanded_of_change_and (C := Tryd.checked) (X := fun w _ => laidMetH Tryd.prog Rows.duesFairsRow.laid w) (fun _ _ _ hh h => h.of_heap hh) own started (by kernel_rfl) Tryd.func4
    (ChangeSpec.witness_at (enc := enc) (C := Tryd.checked) (os := os) (X := fun w _ => laidMetH Tryd.prog Rows.duesFairsRow.laid w) false (laidWorld os) #[.agg #[.slice none 0 0, .slice none 0 0, .slice none 0 0], .slice none 0 0] 8 rfl (by kernel_rfl) (by kernel_rfl) (by kernel_rfl) (by kernel_rfl) (by kernel_rfl) (laidWorld_met os _)) ?_
  intro W base args ds gs before hval0 hW hcnd _ hL _
  have hval : ∀ (j : Nat) t v, Tryd.f4.params[j]? = some t → args[j]? = some v → Value.okWide Tryd.prog W .any base t v := hval0
  have hW' := hW
  obtain ⟨p, q, hA0, hV, rfl, hfz, hnd⟩ := hW
  have hA : DataW.TrodAll enc Tryd.prog W 0 (fun _ => true) true Tryd.f4.params.toList args.toList ds p := hA0
  rw [Tryd.params4] at hA hval
  obtain ⟨v0, vs0, d0, ds0, p0, q0, hargs, rfl, rfl, h0, r0⟩ := trodAll_cons hA
  obtain ⟨v1, vs1, d1, ds1, p1, q1, rfl, rfl, rfl, h1, r1⟩ := trodAll_cons r0
  obtain ⟨rfl, rfl, rfl⟩ := trodAll_nil r1
  obtain rfl : args = #[v0, v1] := by cases args; simp_all
  obtain ⟨rfl, rfl⟩ := trodVars_none hV
  obtain ⟨c0, rfl⟩ := V.okWide_st Tryd.underlying24 (hval 0 24 v0 rfl rfl)
  have k0 := h0
  have lt0 : ∀ x ∈ p0, x.block < W.heap.size := by obtain ⟨m, hm⟩ := k0; exact DataW.trod_lt m _ _ _ hm
  have lv0 : V.Leaves Tryd.prog 24 [.sl [.int .i64], .sl [.int .i64], .sl [.int .i64]] := (.st Tryd.underlying24 (.cons rfl (.sl Tryd.underlying22 (.int Tryd.underlying3) (by kernel_rfl) (by simp)) (by kernel_rfl) (.cons rfl (.sl Tryd.underlying22 (.int Tryd.underlying3) (by kernel_rfl) (by simp)) (by kernel_rfl) (.cons rfl (.sl Tryd.underlying22 (.int Tryd.underlying3) (by kernel_rfl) (by simp)) (by kernel_rfl) .nil))) (by kernel_rfl))
  obtain ⟨ds0_0, wt0_0, zr0, zv0⟩ := V.arg_agg (show V.OpenR W [.sl [.int .i64], .sl [.int .i64], .sl [.int .i64]] c0.toList from by obtain ⟨fuel, hf⟩ := h0; exact V.open_all lv0 hf)
  obtain ⟨z0_0, ds0_1, eq0_0, zl0_0, zb0_0, wt0_1⟩ := V.wt_sl1 wt0_0
  obtain ⟨z0_1, ds0_2, eq0_1, zl0_1, zb0_1, wt0_2⟩ := V.wt_sl1 wt0_1
  obtain ⟨z0_2, ds0_3, eq0_2, zl0_2, zb0_2, wt0_3⟩ := V.wt_sl1 wt0_2
  rw [eq0_0, eq0_1, eq0_2, V.wt_nil wt0_3] at zv0
  obtain ⟨a1, len1, cap1, rfl⟩ := okWide_slice Tryd.underlying29 (hval 1 29 v1 rfl rfl)
  have k1 := h1
  have lt1 : ∀ x ∈ p1, x.block < W.heap.size := by obtain ⟨m, hm⟩ := k1; exact DataW.trod_lt m _ _ _ hm
  have lv1 : V.Leaves Tryd.prog 29 [.sl [.int .i64, .int .i64]] := (.sl Tryd.underlying29 (.arr Tryd.underlying47 (.int Tryd.underlying2) (by kernel_rfl) (by kernel_rfl)) (by kernel_rfl) (by simp))
  obtain ⟨z1, zl1, zb1, zr1, zv1⟩ := V.arg_slP (show V.OpenR W [.sl [.int .i64, .int .i64]] [.slice a1 len1 cap1] from by obtain ⟨fuel, hf⟩ := h1; exact V.open_all lv1 hf)
  clear hA0 hval0
  refine (calls_true mixed tab orc (fairs_law ⟨_, _, _⟩ _ zl0_0 zl0_1 zl0_2 zl1) (hgl := glob_of_laid hL) (All2.cons zv0 (All2.cons zv1 .nil)) (LR.cons zr0 (LR.cons zr1 (LR.nil _)))).mono fun e W' ⟨he, bel⟩ => ?_
  subst he
  exact ⟨_, rfl, _, _, _, [], _, [], hW', trodAll_mk1 (shut_bool Tryd.underlying4 _), (trodAll_cons_mk (Below.trod laidOut (by kernel_rfl) (of_decide_eq_true (by kernel_rfl)) k0 bel lt0) (trodAll_cons_mk (Below.trod laidOut (by kernel_rfl) (of_decide_eq_true (by kernel_rfl)) k1 bel lt1) trodAll_mk0)), rfl, bel.frame _, fun h => by cases h⟩
theorem over : Rows.duesFairsRow.holds Tryd.pinned (OpenSpec.ofChange Rows.duesFairsSpec) :=
  OpenClaim.holds_of_wide 4 Tryd.f4 rfl rfl rfl rfl rfl rfl rfl ⟨rfl, rfl, rfl, rfl, rfl⟩ rfl rfl rfl rfl rfl (by kernel_rfl) Tryd.func4 (by kernel_rfl)
    (of_decide_eq_true (by kernel_rfl)) (by unfold Func.isWrapper; first | (rw [if_pos (by decide +kernel)]; kernel_rfl) | (rw [if_neg (by decide +kernel)]; exact ⟨rfl, rfl⟩))
    (fun os started H enc _ => lifted os started H enc)
theorem card : Rows.DuesFairsCardSaid :=
  Claim7.holds_tied_plain_at .later [] Rows.duesFairsCard.laidKinds true Rows.duesFairsCard.stood.harness false
    over (fun _ h => by cases h) (by kernel_rfl) (fun _ h => by cases h) duesFairs_row_tie rfl ⟨rfl, rfl⟩ (by kernel_rfl) rfl
    (fun f fn hf hfn => by
      obtain rfl : f = 4 := Option.some.inj ((show Tryd.prog.funcNamed Rows.duesFairsRow.func = some 4 by kernel_rfl).symm.trans hf) |>.symm
      obtain rfl : fn = Tryd.f4 := (Option.some.inj (Tryd.func4.symm.trans hfn)).symm
      exact ⟨by kernel_rfl, fun j t ht => by
        rw [Tryd.params4] at ht
        have h3 : t = 24 ∨ t = 29 := by
          have hm : t ∈ [24, 29] := List.mem_of_getElem? (by simpa using ht)
          simpa using hm
        rcases h3 with rfl | rfl
        · exact (show Tryd.prog.wantsStandIn 24 = false by kernel_rfl)
        · exact (show Tryd.prog.wantsStandIn 29 = false by kernel_rfl)⟩)
    (by kernel_rfl)
theorem proved : Rows.DuesFairsCardSaid := card
end Go.Proofs.YtdjpaifhmiocnaaDoor.duesFairs
namespace Go.Proofs.YtdjpaifhmiocnaaDoor
/-- The row, under a short name, for the claim. -/
theorem duesFairs_holds : Rows.DuesFairsCardSaid := duesFairs.proved
end Go.Proofs.YtdjpaifhmiocnaaDoor
